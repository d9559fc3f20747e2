import PyProof.Rows.All
import Wide.All
import OpenK.AllK
import Wide.FinOn
import HandS.ForMost
import HandS.ForExc
import HandS.Walk
import HandS.Star
import HandS.SortInts
import HandS.Lambda
import KE.KeyNested
import KE.SortKeyHeap
import PyProof.ReprRoads
import HandS.TupAny
import HandS.Wide
import HandS.WideBits
import HandS.Ends
import HandS.ExcOwn
import HandS.WordsExc
import HandS.Conv
import HandS.Style
import KE.KExcInit
import HandS.ExcSuper
import HandS.ExcField
import KE.GoesEnum
import HandS.Zip
import HandS.IsInst
import HandS.DictComp
import HandS.More
import PyProof.DictUpdate
import HandS.SetFor
import HandS.Strs
import HandS.EndOwn
import HandS.Zip0
import HandS.DictTup
import KE.KDictZip
import HandS.SortKw
import HandS.TryElse
import PySem.Challenge.RW_beatscan_k10_refused_books
set_option Elab.async false
set_option linter.all false
set_option maxRecDepth 100000
set_option maxHeartbeats 4000000
set_option exponentiation.threshold 20000
/-! PD1: readings by plain data. An expression's reading is a function of a state of data (slots, the draw counter) to data; the heap is kept track of once, here. -/
namespace PD
abbrev D := PySem.PyData
end PD
namespace PD
open PySem PySem.Spec L2
open PyProof.Rows hiding St

/-! ### data and heaps -/
def keyD : Key → D
  | .inl i => .int i
  | .inr x => .str x
mutual
/-- a value is these data; dicts of ints and texts too -/
inductive Dp (K : PySem.W.Frag) (H : Hp) : V → PyData → Prop
  | non : Dp K H .non .none
  | bl (b : Bool) : Dp K H (.bl b) (.bool b)
  | int (i : Int) : Dp K H (.int i) (.int i)
  | str (x : Str) : Dp K H (.str x) (.str x)
  | lst {a : Addr} {xs : List V} {ds : List PyData} : SqL K H a xs → DpAll K H xs ds → Dp K H (.ref a) (.list ds)
  | tup {a : Addr} {xs : List V} {ds : List PyData} : SqT K H a xs → DpAll K H xs ds → Dp K H (.ref a) (.tuple ds)
  | dct {a : Addr} {kvs : List (Key × V)} {es : List (PyData × PyData)} : H a = some (.dK kvs) → DpKvs K H kvs es → Dp K H (.ref a) (.dict es)
inductive DpAll (K : PySem.W.Frag) (H : Hp) : List V → List PyData → Prop
  | nil : DpAll K H [] []
  | cons {v : V} {vs : List V} {d : PyData} {ds : List PyData} : Dp K H v d → DpAll K H vs ds → DpAll K H (v :: vs) (d :: ds)
inductive DpKvs (K : PySem.W.Frag) (H : Hp) : List (Key × V) → List (PyData × PyData) → Prop
  | nil : DpKvs K H [] []
  | cons {k : Key} {v : V} {kvs : List (Key × V)} {d : PyData} {es : List (PyData × PyData)} : Dp K H v d → DpKvs K H kvs es → DpKvs K H ((k, v) :: kvs) ((keyD k, d) :: es)
end
section
variable {K : PySem.W.Frag}
theorem sqT_mono {G G' : Hp} {a : Addr} {xs : List V} (e : Same G G') (h : SqT K G a xs) : SqT K G' a xs := by
  rcases h with (h | ⟨o, h⟩) | h
  · exact .inl (.inl (e _ _ h))
  · exact .inl (.inr ⟨o, e _ _ h⟩)
  · exact .inr h
mutual
theorem dp_mono {G G' : Hp} (e : Same G G') : ∀ (d : PyData) (v : V), Dp K G v d → Dp K G' v d
  | .none, _, h => by cases h; exact .non
  | .bool b, _, h => by cases h; exact .bl b
  | .int i, _, h => by cases h; exact .int i
  | .str x, _, h => by cases h; exact .str x
  | .list ds, _, h => by
    cases h with
    | lst h1 h2 => exact .lst (e.seq h1) (dpAll_mono e ds _ h2)
  | .tuple ds, _, h => by
    cases h with
    | tup h1 h2 => exact .tup (sqT_mono e h1) (dpAll_mono e ds _ h2)
  | .dict es, _, h => by
    cases h with
    | dct h1 h2 => exact .dct (e _ _ h1) (dpKvs_mono e es _ h2)
theorem dpAll_mono {G G' : Hp} (e : Same G G') : ∀ (ds : List PyData) (vs : List V), DpAll K G vs ds → DpAll K G' vs ds
  | [], _, h => by cases h; exact .nil
  | d :: ds, _, h => by
    cases h with
    | cons h1 h2 => exact .cons (dp_mono e d _ h1) (dpAll_mono e ds _ h2)
theorem dpKvs_mono {G G' : Hp} (e : Same G G') : ∀ (ds : List (PyData × PyData)) (vs : List (Key × V)), DpKvs K G vs ds → DpKvs K G' vs ds
  | [], _, h => by cases h; exact .nil
  | (k, d) :: ds, _, h => by
    cases h with
    | cons h1 h2 => exact .cons (dp_mono e d _ h1) (dpKvs_mono e ds _ h2)
end
mutual
/-- the kit's relation, where there are no dicts -/
theorem dp_kit {G : Hp} : ∀ (d : PyData) (v : V), d.canLay0 = true → Dp K G v d → L2.Dp K G v d
  | .none, _, _, h => by cases h; exact .non
  | .bool b, _, _, h => by cases h; exact .bl b
  | .int i, _, _, h => by cases h; exact .int i
  | .str x, _, _, h => by cases h; exact .str x
  | .list ds, _, c, h => by
    cases h with
    | lst h1 h2 => exact .lst h1 (dpAll_kit ds _ (by rw [PyData.canLay0] at c; exact c) h2)
  | .tuple ds, _, c, h => by
    cases h with
    | tup h1 h2 => exact .tup h1 (dpAll_kit ds _ (by rw [PyData.canLay0] at c; exact c) h2)
  | .dict es, _, c, _ => by simp [PyData.canLay0] at c
theorem dpAll_kit {G : Hp} : ∀ (ds : List PyData) (vs : List V), PyData.canLayAll0 ds = true → DpAll K G vs ds → L2.DpAll K G vs ds
  | [], _, _, h => by cases h; exact .nil
  | d :: ds, _, c, h => by
    rw [PyData.canLayAll0, Bool.and_eq_true] at c
    cases h with
    | cons h1 h2 => exact .cons (dp_kit d _ c.1 h1) (dpAll_kit ds _ c.2 h2)
end
theorem Dp.kit {G : Hp} {v : V} {d : D} (h : Dp K G v d) (c : SeqAt.shaped d = true) : L2.Dp K G v d := by
  unfold SeqAt.shaped at c
  rw [Bool.and_eq_true] at c
  exact dp_kit d v c.1 h
theorem Dp.up {G G' : Hp} {v : V} {d : D} (h : Dp K G v d) (e : Same G G') : Dp K G' v d := dp_mono e d v h
theorem DpAll.up {G G' : Hp} {vs : List V} {ds : List D} (h : DpAll K G vs ds) (e : Same G G') : DpAll K G' vs ds := dpAll_mono e ds vs h
theorem DpAll.len {G : Hp} : ∀ {vs : List V} {ds : List D}, DpAll K G vs ds → vs.length = ds.length
  | [], [], _ => rfl
  | _ :: _, _ :: _, h => by cases h with | cons _ h2 => simp [DpAll.len h2]
theorem DpAll.app {G : Hp} : ∀ {vs ws : List V} {ds es : List D}, DpAll K G vs ds → DpAll K G ws es → DpAll K G (vs ++ ws) (ds ++ es)
  | [], _, [], _, _, h => h
  | _ :: _, _, _ :: _, _, h, h' => by cases h with | cons h1 h2 => exact .cons h1 (DpAll.app h2 h')
theorem DpAll.get {G : Hp} : ∀ {vs : List V} {ds : List D} {i : Nat} {d : D}, DpAll K G vs ds → ds[i]? = some d → ∃ v, vs[i]? = some v ∧ Dp K G v d
  | [], [], _, _, _, e => by simp at e
  | v :: vs, d :: ds, 0, d', h, e => by
    cases h with
    | cons h1 h2 =>
      have : d = d' := by simpa using e
      subst this
      exact ⟨v, rfl, h1⟩
  | _ :: _, _ :: _, i + 1, d', h, e => by
    cases h with
    | cons h1 h2 => exact DpAll.get (i := i) h2 (by simpa using e)
theorem DpAll.getV {G : Hp} : ∀ {vs : List V} {ds : List D} {i : Nat} {v : V}, DpAll K G vs ds → vs[i]? = some v → ∃ d, ds[i]? = some d ∧ Dp K G v d
  | [], [], _, _, _, e => by simp at e
  | v :: vs, d :: ds, 0, v', h, e => by
    cases h with
    | cons h1 h2 =>
      have : v = v' := by simpa using e
      subst this
      exact ⟨d, rfl, h1⟩
  | _ :: _, _ :: _, i + 1, d', h, e => by
    cases h with
    | cons h1 h2 => exact DpAll.getV (i := i) h2 (by simpa using e)
theorem DpAll.setI {G : Hp} {v : V} {d : D} (h1 : Dp K G v d) : ∀ {vs : List V} {ds : List D} (i : Nat), DpAll K G vs ds → DpAll K G (vs.set i v) (ds.set i d)
  | [], [], _, _ => .nil
  | _ :: _, _ :: _, 0, h => by cases h with | cons _ h2 => exact .cons h1 h2
  | _ :: _, _ :: _, i + 1, h => by cases h with | cons h0 h2 => exact .cons h0 (DpAll.setI h1 i h2)
theorem DpAll.takeI {G : Hp} : ∀ {vs : List V} {ds : List D} (i : Nat), DpAll K G vs ds → DpAll K G (vs.take i) (ds.take i)
  | [], [], _, _ => by simp; exact .nil
  | _ :: _, _ :: _, 0, h => by simp; exact .nil
  | _ :: _, _ :: _, i + 1, h => by cases h with | cons h0 h2 => exact .cons h0 (DpAll.takeI i h2)
theorem DpAll.dropI {G : Hp} : ∀ {vs : List V} {ds : List D} (i : Nat), DpAll K G vs ds → DpAll K G (vs.drop i) (ds.drop i)
  | [], [], _, _ => by simp; exact .nil
  | _ :: _, _ :: _, 0, h => h
  | _ :: _, _ :: _, i + 1, h => by cases h with | cons h0 h2 => exact DpAll.dropI i h2
theorem DpAll.ints {G : Hp} : ∀ (ns : List Int), DpAll K G (ns.map V.int) (ns.map PyData.int)
  | [] => .nil
  | _ :: r => .cons (.int _) (DpAll.ints r)
theorem DpAll.of_ints {G : Hp} : ∀ {vs : List V} {ns : List Int}, DpAll K G vs (ns.map PyData.int) → vs = ns.map V.int
  | [], [], _ => rfl
  | _ :: _, _ :: _, h => by
    cases h with
    | cons h1 h2 => cases h1; rw [DpAll.of_ints h2]; rfl
theorem DpAll.of_bls {G : Hp} : ∀ {vs : List V} {ns : List Bool}, DpAll K G vs (ns.map PyData.bool) → vs = ns.map V.bl
  | [], [], _ => rfl
  | _ :: _, _ :: _, h => by
    cases h with
    | cons h1 h2 => cases h1; rw [DpAll.of_bls h2]; rfl
theorem DpAll.of_strs {G : Hp} : ∀ {vs : List V} {ns : List Str}, DpAll K G vs (ns.map PyData.str) → vs = ns.map V.str
  | [], [], _ => rfl
  | _ :: _, _ :: _, h => by
    cases h with
    | cons h1 h2 => cases h1; rw [DpAll.of_strs h2]; rfl
end
end PD
namespace L2
open PySem PySem.Spec PD
open PyProof.Rows hiding St
section
variable {X : Cx} {e : Expr}
theorem PE.imp {t t' : TE} (h : PE X e t) (k : ∀ σ H Q, t' σ H Q → t σ H Q) : PE X e t' := ⟨fun pins s σ H Q I hw => h.run pins s σ H Q I (k σ H Q hw)⟩
theorem PT.imp {t t' : TT} (h : PT X e t) (k : ∀ σ H Q, t' σ H Q → t σ H Q) : PT X e t' := ⟨fun pins s σ H Q I hw => h.run pins s σ H Q I (k σ H Q hw)⟩
theorem PW.imp {t t' : TT} (h : PW X e t) (k : ∀ σ H Q, t' σ H Q → t σ H Q) : PW X e t' := ⟨fun wh pins s σ H Q I hw => h.run wh pins s σ H Q I (k σ H Q hw)⟩
theorem PA.imp {es : List Expr} {t t' : TA} (h : PA X es t) (k : ∀ σ H Q, t' σ H Q → t σ H Q) : PA X es t' := ⟨fun pos pins s σ H Q I hw => h.run pos pins s σ H Q I (k σ H Q hw)⟩
theorem PS.imp {st : Stmt} {t t' : TS} (h : PS X st t) (k : ∀ D σ H, t' D σ H → t D σ H) : PS X st t' := ⟨fun pins s σ H D I hw => h.run pins s σ H D I (k D σ H hw)⟩
theorem PSs.imp {st : List Stmt} {t t' : TS} (h : PSs X st t) (k : ∀ D σ H, t' D σ H → t D σ H) : PSs X st t' := ⟨fun pins s σ H D I hw => h.run pins s σ H D I (k D σ H hw)⟩
theorem PTs.imp {es : List Expr} {t t' : TT} (h : PTs X es t) (k : ∀ σ H Q, t' σ H Q → t σ H Q) : PTs X es t' := ⟨fun pins s σ H Q I hw => h.run pins s σ H Q I (k σ H Q hw)⟩
theorem PI.imp {tg : Expr} {t t' : TI} (h : PI X tg e t) (k : ∀ σ H Q, t' σ H Q → t σ H Q) : PI X tg e t' := ⟨fun pins s σ H Q I hw => h.run pins s σ H Q I (k σ H Q hw)⟩
theorem PG.imp {t t' : TG} (h : PG X e t) (k : ∀ v σ H Q, t' v σ H Q → t v σ H Q) : PG X e t' := ⟨fun pins s σ H v u Q I r hw => h.run pins s σ H v u Q I r (k v σ H Q hw)⟩
end
end L2
namespace PD
open PySem PySem.Spec L2
open PyProof.Rows hiding St

/-! ### the state of data -/
/-- an object of its own: a list, a dict of ints and texts, an instance whose fields are data -/
inductive OC where
  | lst (ds : List D)
  | dic (es : List (Key × D))
  | ins (n : Str) (fs : List (Str × D))
  | kys (p : Addr) (ks : List D)
inductive Ent where
  | val (d : D)
  | own (ds : List D)
  | dic (es : List (Key × D))
  | ins (b : Bool) (n : Str) (fs : List (Str × D))
  | kys (ks : List D)
  | hdl
  | tab (P : Addr) (q : Str)
def isOb : Ent → Bool
  | .own _ | .dic _ | .ins _ _ _ | .kys _ => true
  | _ => false
/-- the law's script and the number of draws taken -/
structure Wst where
  ns : List Int
  k : Int
structure S where
  ρ : List (Option Ent)
  w : Wst
abbrev S.put (s : S) (i : Nat) (e : Ent) : S := { s with ρ := s.ρ.set i (some e) }
abbrev S.drop (s : S) (i : Nat) : S := { s with ρ := s.ρ.set i none }

/-- an activation: where the draw list and the script stand; what was frozen and what stood at its entry -/
structure Act where
  wa : Addr
  sc : Addr
  G0 : Hp
  H0 : Hp
  se : Addr
  T : List (Addr × Str)

/-- named values are these data -/
inductive PrAll (K : PySem.W.Frag) (G : Hp) {α : Type} : List (α × V) → List (α × D) → Prop
  | nil : PrAll K G [] []
  | cons {k : α} {v : V} {d : D} {l : List (α × V)} {m : List (α × D)} : Dp K G v d → PrAll K G l m → PrAll K G ((k, v) :: l) ((k, d) :: m)
/-- a dict as data -/
def dicD (es : List (Key × D)) : D := .dict (es.map fun p => (keyD p.1, p.2))
theorem PrAll.kvs {K : PySem.W.Frag} {G : Hp} {l : List (Key × V)} {m : List (Key × D)} (h : PrAll K G l m) : DpKvs K G l (m.map fun p => (keyD p.1, p.2)) := by
  induction h with
  | nil => exact .nil
  | cons h1 _ ih => exact .cons h1 ih
/-- the world, for the hashes of keys -/
class WI where
  wd : World
variable [WI]
/-- a dict at p whose keys are nested tuples, its values True -/
def keysO (wd : World) (p : Addr) (xs : List (NestedKey × Addr)) : HO := .ext fun h => (p == sysModules) = false ∧ ∃ o es ep, h.get? p = some o ∧ o.ExactDict ∧ o.data = .dict es ep ∧ es.toList = xs.map fun x => ⟨x.1.hash wd, .ref x.2, .bool true⟩
structure KysOk (K : PySem.W.Frag) (G : Hp) (xs : List (NestedKey × Addr)) (ks : List D) : Prop where
  nd : (xs.map (·.1)).Nodup
  eq : ks = xs.map (·.1.data)
  at_ : ∀ x ∈ xs, Dp K G (.ref x.2) x.1.data
  len : xs.length ≤ sizeLine
theorem KysOk.up {K : PySem.W.Frag} {G G' : Hp} {xs : List (NestedKey × Addr)} {ks : List D} (h : KysOk K G xs ks) (e : Same G G') : KysOk K G' xs ks := ⟨h.nd, h.eq, fun x hx => (h.at_ x hx).up e, h.len⟩
def OcOk (K : PySem.W.Frag) (G : Hp) (ho : HO) : OC → Prop
  | .lst ds => ∃ vs, ho = .lst vs ∧ DpAll K G vs ds
  | .dic es => ∃ kvs, ho = .dK kvs ∧ PrAll K G kvs es
  | .ins n fs => ∃ C dx fvs, PySem.W.nsIn K mainGlobals n = some (some (.ref C)) ∧ ho = .ins C dx fvs ∧ PrAll K G fvs fs
  | .kys p ks => ∃ xs, ho = keysO WI.wd p xs ∧ KysOk K G xs ks
section
variable {K : PySem.W.Frag} {G G' : Hp}
theorem PrAll.up {α : Type} {l : List (α × V)} {m : List (α × D)} (h : PrAll K G l m) (e : Same G G') : PrAll K G' l m := by
  induction h with
  | nil => exact .nil
  | cons h1 _ ih => exact .cons (h1.up e) ih
theorem OcOk.up {ho : HO} {o : OC} (h : OcOk K G ho o) (e : Same G G') : OcOk K G' ho o := by
  cases o with
  | lst ds =>
    obtain ⟨vs, q, h⟩ := h
    exact ⟨vs, q, h.up e⟩
  | dic ds =>
    obtain ⟨vs, q, h⟩ := h
    exact ⟨vs, q, h.up e⟩
  | ins C ds =>
    obtain ⟨C, dx, vs, hn, q, h⟩ := h
    exact ⟨C, dx, vs, hn, q, h.up e⟩
  | kys p ks =>
    obtain ⟨xs, q, h⟩ := h
    exact ⟨xs, q, h.up e⟩
theorem OcOk.lst {ho : HO} {ds : List D} (h : OcOk K G ho (.lst ds)) : ∃ vs, ho = .lst vs ∧ DpAll K G vs ds := h
theorem OcOk.dic {ho : HO} {es : List (Key × D)} (h : OcOk K G ho (.dic es)) : ∃ kvs, ho = .dK kvs ∧ PrAll K G kvs es := h
end
def Ob (K : PySem.W.Frag) (c : Act) (G H : Hp) (v : V) (o : OC) : Prop := ∃ p ho, v = .ref p ∧ G p = none ∧ c.H0 p = none ∧ p ≠ c.wa ∧ H p = some ho ∧ OcOk K G ho o
def EntOk (K : PySem.W.Frag) (c : Act) (G H : Hp) (v : V) : Ent → Prop
  | .val d => Dp K G v d
  | .own ds => Ob K c G H v (.lst ds)
  | .dic es => Ob K c G H v (.dic es)
  | .ins b n fs => Ob K c G H v (.ins n fs) ∧ (b = true → v = .ref c.se)
  | .kys ks => ∃ p, v = .ref p ∧ Ob K c G H v (.kys p ks)
  | .hdl => v = .ref c.wa
  | .tab P q => c.T = [(P, q)]
/-- slot i holds an object of its own -/
def ObAt (s : S) (i : Nat) : Prop := ∃ e, s.ρ[i]? = some (some e) ∧ isOb e = true

/-- neither a table of code objects nor a code object -/
def mutO : HO → Bool
  | .tup _ => false
  | .frz _ _ => false
  | _ => true
theorem OcOk.mu {K : PySem.W.Frag} {G : Hp} {ho : HO} {o : OC} (h : OcOk K G ho o) : mutO ho = true := by
  cases o with
  | lst _ => obtain ⟨_, e, _⟩ := h; rw [e]; rfl
  | dic _ => obtain ⟨_, e, _⟩ := h; rw [e]; rfl
  | ins _ _ => obtain ⟨_, _, _, _, e, _⟩ := h; rw [e]; rfl
  | kys _ _ => obtain ⟨_, e, _⟩ := h; rw [e]; rfl
/-- neither a table nor a code object -/
noncomputable def plain : HO → Bool
  | .tbl _ => false
  | .ext φ => @decide (∀ c q, HO.ext φ ≠ LamX.CodeO c q) (Classical.propDecidable _)
  | _ => true
theorem plain_code {c : Addr} {q : Str} (h : plain (LamX.CodeO c q) = true) : False := by
  have h : @decide (∀ c' q', LamX.CodeO c q ≠ LamX.CodeO c' q') (Classical.propDecidable _) = true := h
  exact @of_decide_eq_true _ (Classical.propDecidable _) h c q rfl
/-- .. nor a tuple, nor frozen -/
noncomputable def plB : HO → Bool
  | .tup _ => false
  | .frz _ _ => false
  | o => plain o
theorem plB_mu {o : HO} (h : plB o = true) : mutO o = true := by cases o <;> first | rfl | cases h
theorem plB_pl {o : HO} (h : plB o = true) : plain o = true := by cases o <;> first | rfl | cases h | exact h
theorem keysO_code (wd : World) (p : Addr) (xs : List (NestedKey × Addr)) (c : Addr) (q : Str) : keysO wd p xs ≠ LamX.CodeO c q := fun e => by
  have e := HO.ext.inj e
  let ob : Obj := { cls := .none, data := .fields #[.none, .str q 0] }
  let h0 : Heap := { objs := Array.replicate (c + 1) ob }
  have hg : ∀ a o, h0.get? a = some o → o = ob := fun a o z => by
    unfold Heap.get? at z
    by_cases ha : a < c + 1
    · simp [h0, Array.getElem?_replicate, ha, ob] at z
      exact z.symm
    · simp [h0, Array.getElem?_replicate, ha] at z
  have hc : h0.get? c = some ob := by
    unfold Heap.get?
    simp [h0, Array.getElem?_replicate, ob]
  have key : (fun h : Heap => ∃ (oc : Obj) (vs : Array Value) (t : Tok), h.get? c = some oc ∧ oc.data = .fields vs ∧ vs[1]? = some (.str q t)) h0 := ⟨ob, _, 0, hc, rfl, rfl⟩
  rw [← e] at key
  obtain ⟨_, o, es, ep, h1, _, h2, _⟩ := key
  rw [hg _ _ h1] at h2
  cases h2
theorem keysO_plain (wd : World) (p : Addr) (xs : List (NestedKey × Addr)) : plain (keysO wd p xs) = true := @decide_eq_true _ (Classical.propDecidable _) (keysO_code wd p xs)
theorem keysO_plB (wd : World) (p : Addr) (xs : List (NestedKey × Addr)) : plB (keysO wd p xs) = true := keysO_plain wd p xs
theorem TabS.at_ {H : Hp} {P : Addr} {q : Str} (t : LamX.TabS H P q) : ∃ ps, H P = some (.tbl ps) := let ⟨ps, h, _⟩ := t; ⟨ps, h⟩
theorem TabS.ne {H : Hp} {P p : Addr} {q : Str} {o : HO} (t : LamX.TabS H P q) (h : H p = some o) (pl : plain o = true) : P ≠ p := fun z => by
  obtain ⟨ps, e⟩ := TabS.at_ t
  rw [z, h] at e
  cases e
  cases pl
theorem TabS.free {H : Hp} {P p : Addr} {q : Str} (t : LamX.TabS H P q) (h : H p = none) : P ≠ p := fun z => by
  obtain ⟨ps, e⟩ := TabS.at_ t
  rw [z, h] at e
  cases e
theorem TabS.set {H : Hp} {P p : Addr} {q : Str} {o o' : HO} (t : LamX.TabS H P q) (h : H p = some o) (pl : plain o = true) : LamX.TabS (upd H p o') P q := by
  have hP := TabS.ne t h pl
  obtain ⟨ps, h1, h2, h3⟩ := t
  refine ⟨ps, by rw [upd_ne hP]; exact h1, h2, fun pos cv hc => ?_⟩
  obtain ⟨c, e1, e2⟩ := h3 pos cv hc
  refine ⟨c, e1, ?_⟩
  have hc : c ≠ p := fun z => by
    rw [z, h] at e2
    cases e2
    exact plain_code pl
  rw [upd_ne hc]
  exact e2
theorem TabS.new {H : Hp} {P p : Addr} {q : Str} {o' : HO} (t : LamX.TabS H P q) (h : H p = none) : LamX.TabS (upd H p o') P q := t.ext fun b o e => (upd_ne (ne_of_none e h)).trans e
theorem _root_.LamX.TabS.exw {H H' : Hp} {P wa : Addr} {q : Str} {l : List V} (t : LamX.TabS H P q) (hw : H wa = some (.lst l)) (h : ∀ a o, H a = some o → a ≠ wa → H' a = some o) : LamX.TabS H' P q := by
  have hP := TabS.ne t hw rfl
  obtain ⟨ps, h1, h2, h3⟩ := t
  refine ⟨ps, h _ _ h1 hP, h2, fun pos cv hc => ?_⟩
  obtain ⟨c, e1, e2⟩ := h3 pos cv hc
  refine ⟨c, e1, h _ _ e2 fun z => ?_⟩
  rw [z, hw] at e2
  cases e2
theorem OcOk.pl {K : PySem.W.Frag} {G : Hp} {ho : HO} {o : OC} (h : OcOk K G ho o) : plain ho = true := by
  cases o with
  | lst ds => obtain ⟨vs, rfl, _⟩ := h; rfl
  | dic es => obtain ⟨vs, rfl, _⟩ := h; rfl
  | ins n fs => obtain ⟨C, dx, fvs, _, rfl, _⟩ := h; rfl
  | kys p ks => obtain ⟨xs, rfl, _⟩ := h; exact keysO_plain _ _ _
theorem OcOk.plb {K : PySem.W.Frag} {G : Hp} {ho : HO} {o : OC} (h : OcOk K G ho o) : plB ho = true := by
  cases o with
  | lst ds => obtain ⟨vs, rfl, _⟩ := h; rfl
  | dic es => obtain ⟨vs, rfl, _⟩ := h; rfl
  | ins n fs => obtain ⟨C, dx, fvs, _, rfl, _⟩ := h; rfl
  | kys p ks => obtain ⟨xs, rfl, _⟩ := h; exact keysO_plB _ _ _
structure Base (K : PySem.W.Frag) (c : Act) (G H : Hp) (w : Wst) : Prop where
  sub : Same G H
  wl : H c.wa = some (.lst [.ref c.sc, .int 0, .int w.k])
  wf : G c.wa = none
  scr : SqL K G c.sc (w.ns.map V.int)
  g0 : Same c.G0 G
  h0 : ∀ a o, c.H0 a = some o → a ≠ c.wa → H a = some o
  n0 : ∀ a o, c.H0 a = some o → mutO o = true → c.G0 a = none → G a = none
  tb : ∀ q ∈ c.T, LamX.TabS H q.1 q.2 ∧ G q.1 = none ∧ c.H0 q.1 = none ∧ ∀ a ps, c.H0 a ≠ some (.tbl ps)
  ng : ∀ a ps, G a ≠ some (.tbl ps)
structure Rel (K : PySem.W.Frag) (c : Act) (G H : Hp) (σ : St) (s : S) : Prop where
  b : Base K c G H s.w
  len : s.ρ.length = σ.length
  slot : ∀ (i : Nat) e, s.ρ[i]? = some (some e) → ∃ v, σ[i]? = some (some v) ∧ EntOk K c G H v e
  sep : ∀ (i j : Nat) v, i ≠ j → ObAt s i → ObAt s j → σ[i]? = some (some v) → σ[j]? ≠ some (some v)

section
variable {K : PySem.W.Frag} {c : Act} {G H : Hp} {σ : St} {s : S} {p : Addr}
theorem same_upd {G : Hp} {p : Addr} {o : HO} (h : G p = none) : Same G (upd G p o) := fun b x e => by
  rw [upd_ne (ne_of_none e h)]
  exact e
theorem Base.free (r : Base K c G H s.w) (hp : H p = none) : G p = none ∧ p ≠ c.wa ∧ c.H0 p = none ∧ c.G0 p = none := by
  have hG : G p = none := r.sub.free hp
  have hw : p ≠ c.wa := fun e => by
    have := r.wl
    rw [← e, hp] at this
    cases this
  refine ⟨hG, hw, ?_, r.g0.free hG⟩
  cases q : c.H0 p with
  | none => rfl
  | some o =>
    have := r.h0 p o q hw
    rw [hp] at this
    cases this
/-- a new object that is never changed again -/
theorem Base.alloc (r : Base K c G H s.w) (hp : H p = none) {o : HO} (pl : plain o = true) : Base K c (upd G p o) (upd H p o) s.w := by
  obtain ⟨hG, hw, h0, g0⟩ := r.free hp
  refine ⟨fun a u e => ?_, ?_, ?_, (same_upd hG).seq r.scr, r.g0.trans (same_upd hG), fun a u e n => ?_, fun a u e mu n => ?_, fun q hq => let ⟨t, g, h⟩ := r.tb q hq; ⟨TabS.new t hp, (upd_ne (TabS.free t hp)).trans g, h⟩, fun a ps z => ?_⟩
  rotate_right
  · by_cases h : a = p
    · rw [h, upd_same] at z
      cases z
      cases pl
    · rw [upd_ne h] at z
      exact r.ng a ps z
  · by_cases h : a = p
    · subst h
      rw [upd_same] at e ⊢
      exact e
    · rw [upd_ne h] at e ⊢
      exact r.sub a u e
  · rw [upd_ne (Ne.symm hw)]
    exact r.wl
  · rw [upd_ne (Ne.symm hw)]
    exact r.wf
  · rw [upd_ne (ne_of_none e h0)]
    exact r.h0 a u e n
  · rw [upd_ne (ne_of_none e h0)]
    exact r.n0 a u e mu n
theorem Ob.up {G' H' : Hp} {v : V} {o : OC} (h : Ob K c G H v o) (g : Same G G') (k : ∀ q ho, H q = some ho → G q = none → c.H0 q = none → q ≠ c.wa → mutO ho = true → H' q = some ho ∧ G' q = none) : Ob K c G' H' v o := by
  obtain ⟨q, vs, e, h1, h2, h3, h4, h5⟩ := h
  obtain ⟨k1, k2⟩ := k q vs h4 h1 h2 h3 (OcOk.mu h5)
  exact ⟨q, vs, e, k2, h2, h3, k1, OcOk.up h5 g⟩
theorem EntOk.up {G' H' : Hp} {v : V} {e : Ent} (h : EntOk K c G H v e) (g : Same G G') (k : ∀ q ho, H q = some ho → G q = none → c.H0 q = none → q ≠ c.wa → mutO ho = true → H' q = some ho ∧ G' q = none) : EntOk K c G' H' v e := by
  cases e with
  | val d => exact Dp.up h g
  | hdl => exact h
  | tab _ _ => exact h
  | own _ => exact Ob.up h g k
  | dic _ => exact Ob.up h g k
  | ins _ _ _ => exact ⟨Ob.up h.1 g k, h.2⟩
  | kys _ => obtain ⟨p, e, h⟩ := h; exact ⟨p, e, Ob.up h g k⟩
theorem EntOk.conv {c' : Act} {G' H' : Hp} {v : V} {e : Ent} (h : EntOk K c G H v e) (sm : Same G G') (hw : c'.wa = c.wa) (hse : c'.se = c.se) (hT : c'.T = c.T) (k : isOb e = true → ∀ o, Ob K c G H v o → Ob K c' G' H' v o) : EntOk K c' G' H' v e := by
  cases e with
  | val d => exact Dp.up h sm
  | hdl =>
    show v = .ref c'.wa
    rw [hw]
    exact h
  | tab P q =>
    show c'.T = _
    rw [hT]
    exact h
  | own _ => exact k rfl _ h
  | dic _ => exact k rfl _ h
  | ins _ _ _ => exact ⟨k rfl _ h.1, by rw [hse]; exact h.2⟩
  | kys _ => obtain ⟨p, e, h⟩ := h; exact ⟨p, e, k rfl _ h⟩
theorem EntOk.ob {v : V} {e : Ent} (h : EntOk K c G H v e) (b : isOb e = true) : ∃ o, Ob K c G H v o := by
  cases e with
  | val d => cases b
  | hdl => cases b
  | tab _ _ => cases b
  | own _ => exact ⟨_, h⟩
  | dic _ => exact ⟨_, h⟩
  | ins _ _ _ => exact ⟨_, h.1⟩
  | kys _ => obtain ⟨p, e, h⟩ := h; exact ⟨_, h⟩
theorem Rel.alloc (r : Rel K c G H σ s) (hp : H p = none) {o : HO} (pl : plain o = true := by rfl) : Rel K c (upd G p o) (upd H p o) σ s := by
  obtain ⟨hG, hw, h0, g0⟩ := r.b.free hp
  refine ⟨r.b.alloc hp pl, r.len, fun i e q => ?_, r.sep⟩
  obtain ⟨v, hv, he⟩ := r.slot i e q
  refine ⟨v, hv, he.up (same_upd hG) fun q vs h1 h2 h3 h4 _ => ?_⟩
  have hn : q ≠ p := ne_of_none h1 hp
  rw [upd_ne hn, upd_ne hn]
  exact ⟨h1, h2⟩
/-- a new list that is not yet frozen (nor tracked by a slot) -/
theorem Rel.allocOwn (r : Rel K c G H σ s) (hp : H p = none) {o : HO} : Rel K c G (upd H p o) σ s := by
  obtain ⟨hG, hw, h0, g0⟩ := r.b.free hp
  refine ⟨⟨fun a u e => ?_, ?_, r.b.wf, r.b.scr, r.b.g0, fun a u e n => ?_, r.b.n0, fun q hq => let ⟨t, g, h⟩ := r.b.tb q hq; ⟨TabS.new t hp, g, h⟩, r.b.ng⟩, r.len, fun i e q => ?_, r.sep⟩
  · rw [upd_ne (ne_of_none e hG)]
    exact r.b.sub a u e
  · rw [upd_ne (Ne.symm hw)]
    exact r.b.wl
  · rw [upd_ne (ne_of_none e h0)]
    exact r.b.h0 a u e n
  · obtain ⟨v, hv, he⟩ := r.slot i e q
    refine ⟨v, hv, he.up (Same.refl _) fun q vs h1 h2 h3 h4 _ => ?_⟩
    rw [upd_ne (ne_of_none h1 hp)]
    exact ⟨h1, h2⟩
theorem drop_get0 {s : S} {i j : Nat} {e : Ent} (q : (s.drop i).ρ[j]? = some (some e)) : s.ρ[j]? = some (some e) := by
  have q : (s.ρ.set i none)[j]? = some (some e) := q
  by_cases h : i = j
  · subst h
    by_cases hl : i < s.ρ.length
    · rw [List.getElem?_set_self hl] at q
      cases q
    · rw [List.set_eq_of_length_le (by omega)] at q
      exact q
  · rwa [List.getElem?_set_ne h] at q
theorem ObAt.drop {s : S} {i j : Nat} (h : ObAt (s.drop i) j) : ObAt s j := let ⟨e, q, b⟩ := h; ⟨e, drop_get0 q, b⟩
/-- an entry of a slot is forgotten -/
theorem Rel.forget (r : Rel K c G H σ s) (i : Nat) : Rel K c G H σ (s.drop i) :=
  ⟨r.b, by simpa using r.len, fun j e q => r.slot j e (drop_get0 q), fun i' j v n h1 h2 => r.sep i' j v n h1.drop h2.drop⟩
theorem put_get0 {s : S} {i j : Nat} {e e' : Ent} (q : (s.put i e).ρ[j]? = some (some e')) : (i = j ∧ i < s.ρ.length ∧ e = e') ∨ (i ≠ j ∧ s.ρ[j]? = some (some e')) := by
  have q : (s.ρ.set i (some e))[j]? = some (some e') := q
  by_cases hj : i = j
  · subst hj
    by_cases hi : i < s.ρ.length
    · rw [List.getElem?_set_self hi] at q
      exact .inl ⟨rfl, hi, by simpa using q⟩
    · rw [List.set_eq_of_length_le (by omega)] at q
      rw [List.getElem?_eq_none (by omega)] at q
      cases q
  · rw [List.getElem?_set_ne hj] at q
    exact .inr ⟨hj, q⟩
/-- a slot is stored -/
theorem Rel.put (r : Rel K c G H σ s) (i : Nat) {v : V} {e : Ent} (h : EntOk K c G H v e)
    (hs : isOb e = true → ∀ (j : Nat), i ≠ j → ObAt s j → σ[j]? ≠ some (some v)) : Rel K c G H (σ.set i (some v)) (s.put i e) := by
  have hl := r.len
  refine ⟨r.b, by simpa using r.len, fun j e' q => ?_, fun j l u n h1 h2 h3 => ?_⟩
  · rcases put_get0 q with ⟨rfl, hi, rfl⟩ | ⟨hj, q⟩
    · exact ⟨v, List.getElem?_set_self (by omega), h⟩
    · rw [List.getElem?_set_ne hj]
      exact r.slot j e' q
  · obtain ⟨e1, q1, b1⟩ := h1
    obtain ⟨e2, q2, b2⟩ := h2
    rcases put_get0 q1 with ⟨rfl, hi, rfl⟩ | ⟨hj, q1⟩
    · rcases put_get0 q2 with ⟨rfl, _, _⟩ | ⟨hl', q2⟩
      · exact absurd rfl n
      · rw [List.getElem?_set_self (by omega)] at h3
        have ev : v = u := by simpa using h3
        subst ev
        rw [List.getElem?_set_ne hl']
        exact hs b1 l hl' ⟨e2, q2, b2⟩
    · rcases put_get0 q2 with ⟨rfl, hi, rfl⟩ | ⟨hl', q2⟩
      · rw [List.getElem?_set_ne hj] at h3
        rw [List.getElem?_set_self (by omega)]
        intro z
        have ev : v = u := by simpa using z
        subst ev
        exact hs b2 j hj ⟨e1, q1, b1⟩ h3
      · rw [List.getElem?_set_ne hj] at h3
        rw [List.getElem?_set_ne hl']
        exact r.sep j l u n ⟨e1, q1, b1⟩ ⟨e2, q2, b2⟩ h3
end
end PD
/-! PD2: readings of expressions by functions of the state of data. -/
namespace PD
open PySem PySem.Spec L2
open PyProof.Rows hiding St
variable [WI]

/-- what code gives on a state: a value and the state behind it; an error of the program's own (its number, its fields); what is not carried -/
inductive R (α : Type) where
  | ok (a : α) (s : S)
  | exc (k : Nat) (as : List D) (s : S)
  | bad
@[inline] def R.bind {α β : Type} (r : R α) (f : α → S → R β) : R β :=
  match r with
  | .ok a s => f a s
  | .exc k as s => .exc k as s
  | .bad => .bad
def R.of {α : Type} (o : Option α) (s : S) : R α :=
  match o with
  | some a => .ok a s
  | none => .bad
@[simp] theorem R.bind_ok {α β : Type} (a : α) (s : S) (f : α → S → R β) : (R.ok a s).bind f = f a s := rfl
@[simp] theorem R.bind_exc {α β : Type} (k : Nat) (as : List D) (s : S) (f : α → S → R β) : (R.exc k as s : R α).bind f = .exc k as s := rfl
@[simp] theorem R.bind_bad {α β : Type} (f : α → S → R β) : (R.bad : R α).bind f = .bad := rfl
@[simp] theorem R.of_some {α : Type} (a : α) (s : S) : R.of (some a) s = .ok a s := rfl
@[simp] theorem R.of_none {α : Type} (s : S) : R.of (none : Option α) s = .bad := rfl

/-- the program's own errors: the class's address, its fields' names -/
abbrev ExT := Nat → Option (Addr × List Str)
def ExcIs (K : PySem.W.Frag) (ex : ExT) (k : Nat) (as : List D) (cls : Value) (dx : Option Addr) (G H : Hp) : Prop :=
  ∃ C names d fs vs, ex k = some (C, names) ∧ cls = .ref C ∧ dx = some d ∧ H d = some (.xd fs) ∧ names.map (fun n => fs.lookup n) = vs.map some ∧ DpAll K G vs as

def Post {α : Type} (K : PySem.W.Frag) (ex : ExT) (W : WX) (c : Act) (G : Hp) (σ : St) (N : α → Hp → Hp → S → Prop) : R α → Prop
  | .ok a s' => ∀ G' H', Same G G' → Rel K c G' H' σ s' → N a G' H' s'
  | .exc k as s' => ∀ cls dx G' H', Same G G' → Rel K c G' H' σ s' → ExcIs K ex k as cls dx G' H' → W cls dx σ H'
  | .bad => False

abbrev FE := S → R D
abbrev FA := S → R (List D)
abbrev FT := S → R Bool
def tE (K : PySem.W.Frag) (ex : ExT) (W : WX) (f : FE) : TE := fun σ H Q => ∃ c G s, Rel K c G H σ s ∧ Post K ex W c G σ (fun d G' H' _ => ∀ v, Dp K G' v d → Q v H') (f s)
def tA (K : PySem.W.Frag) (ex : ExT) (W : WX) (f : FA) : TA := fun σ H Q => ∃ c G s, Rel K c G H σ s ∧ Post K ex W c G σ (fun ds G' H' _ => ∀ vs, DpAll K G' vs ds → Q vs H') (f s)
def tT (K : PySem.W.Frag) (ex : ExT) (W : WX) (f : FT) : TT := fun σ H Q => ∃ c G s, Rel K c G H σ s ∧ Post K ex W c G σ (fun b _ H' _ => Q b H') (f s)

section
variable {K : PySem.W.Frag} {ex : ExT} {W : WX} {c : Act} {G H : Hp} {σ : St} {s : S}
theorem Post.up {α : Type} {N : α → Hp → Hp → S → Prop} {G' : Hp} {r : R α} (h : Post K ex W c G σ N r) (e : Same G G') : Post K ex W c G' σ N r := by
  cases r with
  | ok a s => exact fun G2 H2 e2 r2 => h G2 H2 (e.trans e2) r2
  | exc k as s => exact fun cls dx G2 H2 e2 r2 => h cls dx G2 H2 (e.trans e2) r2
  | bad => exact h
theorem Post.imp {α : Type} {N N' : α → Hp → Hp → S → Prop} {r : R α} (h : Post K ex W c G σ N r) (k : ∀ a G' H' s', Same G G' → Rel K c G' H' σ s' → N a G' H' s' → N' a G' H' s') : Post K ex W c G σ N' r := by
  cases r with
  | ok a s => exact fun G2 H2 e2 r2 => k a G2 H2 s e2 r2 (h G2 H2 e2 r2)
  | exc k as s => exact h
  | bad => exact h
/-- first f, then the rest -/
theorem Post.seq {α β : Type} {r : R α} {g : α → S → R β} {M : β → Hp → Hp → S → Prop} {N : α → Hp → Hp → S → Prop} (h : Post K ex W c G σ M (r.bind g))
    (next : ∀ a s' G' H', Same G G' → Rel K c G' H' σ s' → Post K ex W c G' σ M (g a s') → N a G' H' s') : Post K ex W c G σ N r := by
  cases r with
  | ok a s => exact fun G2 H2 e2 r2 => next a s G2 H2 e2 r2 (Post.up h e2)
  | exc k as s => exact h
  | bad => exact h
theorem inE {β : Type} {f : FE} {g : D → S → R β} {M : β → Hp → Hp → S → Prop} {N : V → Hp → Prop} (r : Rel K c G H σ s) (h : Post K ex W c G σ M ((f s).bind g))
    (next : ∀ d s' G' H' v, Same G G' → Rel K c G' H' σ s' → Dp K G' v d → Post K ex W c G' σ M (g d s') → N v H') : tE K ex W f σ H N :=
  ⟨c, G, s, r, Post.seq h fun a s' G' H' e r' q v hv => next a s' G' H' v e r' hv q⟩
theorem inA {β : Type} {f : FA} {g : List D → S → R β} {M : β → Hp → Hp → S → Prop} {N : List V → Hp → Prop} (r : Rel K c G H σ s) (h : Post K ex W c G σ M ((f s).bind g))
    (next : ∀ ds s' G' H' vs, Same G G' → Rel K c G' H' σ s' → DpAll K G' vs ds → Post K ex W c G' σ M (g ds s') → N vs H') : tA K ex W f σ H N :=
  ⟨c, G, s, r, Post.seq h fun a s' G' H' e r' q v hv => next a s' G' H' v e r' hv q⟩
theorem inT {β : Type} {f : FT} {g : Bool → S → R β} {M : β → Hp → Hp → S → Prop} {N : Bool → Hp → Prop} (r : Rel K c G H σ s) (h : Post K ex W c G σ M ((f s).bind g))
    (next : ∀ b s' G' H', Same G G' → Rel K c G' H' σ s' → Post K ex W c G' σ M (g b s') → N b H') : tT K ex W f σ H N :=
  ⟨c, G, s, r, Post.seq h fun a s' G' H' e r' q => next a s' G' H' e r' q⟩
/-- the end of a reading: a value -/
theorem Post.val {d : D} {s' : S} {Q : VK} (h : Post K ex W c G σ (fun d G' H' _ => ∀ v, Dp K G' v d → Q v H') (.ok d s')) {v : V} (r : Rel K c G H σ s') (hv : Dp K G v d) : Q v H :=
  h G H (Same.refl _) r v hv
theorem Post.val' {α : Type} {N : α → Hp → Hp → S → Prop} {a : α} {s' : S} (h : Post K ex W c G σ N (.ok a s')) (r : Rel K c G H σ s') : N a G H s' :=
  h G H (Same.refl _) r
end
/-! ### slots, constants -/
/-- reading a slot: a list of its own is frozen by it -/
def rdSlot (s : S) (i : Nat) : R D :=
  match s.ρ[i]? with
  | some (some (.val d)) => .ok d s
  | some (some (.own ds)) => .ok (.list ds) (s.put i (.val (.list ds)))
  | some (some (.dic es)) => .ok (dicD es) (s.put i (.val (dicD es)))
  | _ => .bad
def fSlot (i : Nat) : FE := fun s => rdSlot s i
def fC (d : D) : FE := fun s => .ok d s
section
variable {X : Cx} {ex : ExT} {W : WX}
/-- an object of a slot's own is known from now on and never changed -/
theorem Rel.freezeAt {K : PySem.W.Frag} {c : Act} {G H : Hp} {σ : St} {s : S} {i : Nat} {p : Addr} {ho : HO} (r : Rel K c G H σ s) (h : ObAt s i) (hv : σ[i]? = some (some (.ref p))) (hG : G p = none) (h0 : c.H0 p = none) (hw : p ≠ c.wa) (hH : H p = some ho) (pl : plain ho = true) :
    Same G (upd G p ho) ∧ Rel K c (upd G p ho) H σ (s.drop i) := by
  have sm : Same G (upd G p ho) := same_upd hG
  have g0 : c.G0 p = none := r.b.g0.free hG
  refine ⟨sm, ?_⟩
  have rf := r.forget i
  refine ⟨⟨fun a u e => ?_, r.b.wl, ?_, sm.seq r.b.scr, r.b.g0.trans sm, r.b.h0, fun a u e mu n => ?_, fun q hq => let ⟨t, g, h⟩ := r.b.tb q hq; ⟨t, (upd_ne (TabS.ne t hH pl)).trans g, h⟩, fun a ps z => by
    by_cases h : a = p
    · rw [h, upd_same] at z
      cases z
      cases pl
    · rw [upd_ne h] at z
      exact r.b.ng a ps z⟩, rf.len, fun j e q => ?_, rf.sep⟩
  · by_cases ha : a = p
    · subst ha
      rw [upd_same] at e
      cases e
      exact hH
    · rw [upd_ne ha] at e
      exact r.b.sub a u e
  · rw [upd_ne (Ne.symm hw)]
    exact r.b.wf
  · rw [upd_ne (ne_of_none e h0)]
    exact r.b.n0 a u e mu n
  · obtain ⟨u, hu, he⟩ := rf.slot j e q
    refine ⟨u, hu, ?_⟩
    have key : isOb e = true → ∀ p', u = .ref p' → p' ≠ p := fun b p' eu z => by
      subst z
      have hij : i ≠ j := fun z => by
        subst z
        have q : (s.ρ.set i none)[i]? = some (some e) := q
        by_cases hl : i < s.ρ.length
        · rw [List.getElem?_set_self hl] at q
          cases q
        · rw [List.set_eq_of_length_le (by omega), List.getElem?_eq_none (by omega)] at q
          cases q
      rw [eu] at hu
      exact r.sep i j _ hij h ⟨e, drop_get0 q, b⟩ hv hu
    have gen : ∀ o, isOb e = true → Ob K c G H u o → Ob K c (upd G p ho) H u o := fun o b ⟨p', vs', e', k1, k2, k3, k4, k5⟩ => by
      have hp := key b p' e'
      refine ⟨p', vs', e', ?_, k2, k3, k4, k5.up sm⟩
      rw [upd_ne hp]
      exact k1
    cases e with
    | val d => exact Dp.up he sm
    | hdl => exact he
    | tab _ _ => exact he
    | own _ => exact gen _ rfl he
    | dic _ => exact gen _ rfl he
    | ins _ _ _ => exact ⟨gen _ rfl he.1, he.2⟩
    | kys _ => obtain ⟨p', e', he⟩ := he; exact ⟨p', e', gen _ rfl he⟩
theorem Rel.frozen {K : PySem.W.Frag} {c : Act} {G H : Hp} {σ : St} {s : S} {i : Nat} {p : Addr} {d : D} (r1 : Rel K c G H σ (s.drop i)) (hv : σ[i]? = some (some (.ref p))) (dl : Dp K G (.ref p) d) : Rel K c G H σ (s.put i (.val d)) := by
  have r2 := r1.put i (v := .ref p) (e := .val d) dl (fun e => nomatch e)
  have e1 : σ.set i (some (.ref p)) = σ := by
    apply List.ext_getElem?
    intro j
    by_cases hj : i = j
    · subst hj
      rw [List.getElem?_set_self (List.getElem?_eq_some_iff.mp hv).1]
      exact hv.symm
    · rw [List.getElem?_set_ne hj]
  have e2 : (s.drop i).put i (.val d) = s.put i (.val d) := by
    show (⟨(s.ρ.set i none).set i (some (.val d)), s.w⟩ : S) = ⟨s.ρ.set i (some (.val d)), s.w⟩
    rw [List.set_set]
  rw [e1, e2] at r2
  exact r2
theorem Rel.freeze {K : PySem.W.Frag} {c : Act} {G H : Hp} {σ : St} {s : S} {i : Nat} {ds : List D} (r : Rel K c G H σ s) (h : s.ρ[i]? = some (some (.own ds))) :
    ∃ v G', Same G G' ∧ σ[i]? = some (some v) ∧ Dp K G' v (.list ds) ∧ Rel K c G' H σ (s.put i (.val (.list ds))) := by
  obtain ⟨v, hv, p, ho, rfl, hG, h0, hw, hH, ⟨vs, rfl, hd⟩⟩ := r.slot i _ h
  obtain ⟨sm, r1⟩ := r.freezeAt ⟨_, h, rfl⟩ hv hG h0 hw hH rfl
  have dl : Dp K (upd G p (.lst vs)) (.ref p) (.list ds) := .lst (SqL.of upd_same) (hd.up sm)
  exact ⟨.ref p, _, sm, hv, dl, r1.frozen hv dl⟩
theorem Rel.freezeD {K : PySem.W.Frag} {c : Act} {G H : Hp} {σ : St} {s : S} {i : Nat} {es : List (Key × D)} (r : Rel K c G H σ s) (h : s.ρ[i]? = some (some (.dic es))) :
    ∃ v G', Same G G' ∧ σ[i]? = some (some v) ∧ Dp K G' v (dicD es) ∧ Rel K c G' H σ (s.put i (.val (dicD es))) := by
  obtain ⟨v, hv, p, ho, rfl, hG, h0, hw, hH, ⟨vs, rfl, hd⟩⟩ := r.slot i _ h
  obtain ⟨sm, r1⟩ := r.freezeAt ⟨_, h, rfl⟩ hv hG h0 hw hH rfl
  have dl : Dp K (upd G p (.dK vs)) (.ref p) (dicD es) := .dct upd_same (hd.up sm).kvs
  exact ⟨.ref p, _, sm, hv, dl, r1.frozen hv dl⟩
theorem eSlot (i : Nat) {x : Str} {pos : Pos} (hN : X.N[i]? = some x := by rfl) (hv : Vis X.env.scope x := by first | exact Or.inl rfl | exact Or.inr (Or.inl rfl) | exact Or.inr (Or.inr rfl)) (hd : (x == ("__debug__" : Str)) = false := by decide)
    (hcd : (x == ("__classdict__" : Str)) = false := by decide) : PE X (.Name x pos) (tE X.K ex W (fSlot i)) := by
  refine PE.imp (pe_var hN hv hd hcd) fun σ H Q h => ?_
  obtain ⟨c, G, s, r, h⟩ := h
  have h : Post X.K ex W c G σ (fun d G' H' _ => ∀ v, Dp X.K G' v d → Q v H') (rdSlot s i) := h
  unfold rdSlot at h
  split at h
  · rename_i d hd
    obtain ⟨v, hv, he⟩ := r.slot i _ hd
    exact ⟨v, hv, h.val r he⟩
  · rename_i ds hd
    obtain ⟨v, G', e, hv, hl, r'⟩ := r.freeze hd
    exact ⟨v, hv, (h.up e).val r' hl⟩
  · rename_i ds hd
    obtain ⟨v, G', e, hv, hl, r'⟩ := r.freezeD hd
    exact ⟨v, hv, (h.up e).val r' hl⟩
  · exact h.elim
theorem eInt {i j pos} : PE X (.Constant (.int i) j pos) (tE X.K ex W (fC (.int i))) := PE.imp pe_int fun _ _ _ ⟨_, _, _, r, h⟩ => h.val r (.int i)
theorem eBl {b j pos} : PE X (.Constant (.bool b) j pos) (tE X.K ex W (fC (.bool b))) := PE.imp pe_bl fun _ _ _ ⟨_, _, _, r, h⟩ => h.val r (.bl b)
theorem eNon {j pos} : PE X (.Constant .none j pos) (tE X.K ex W (fC .none)) := PE.imp pe_non fun _ _ _ ⟨_, _, _, r, h⟩ => h.val r .non
theorem eStr {x j pos} : PE X (.Constant (.str x) j pos) (tE X.K ex W (fC (.str x))) := PE.imp pe_str fun _ _ _ ⟨_, _, _, r, h⟩ => h.val r (.str x)
/-- a constant of the module -/
theorem eGlob {x : Str} {d : D} {v : V} {u : Value} {pos : Pos} (hg : Gl X x) (hm : X.mg x = some u) (rv : RelV v u) (hd : ∀ G, Dp X.K G v d) (hdb : (x == ("__debug__" : Str)) = false := by decide) :
    PE X (.Name x pos) (tE X.K ex W (fC d)) := PE.imp (pe_glob hg hm rv hdb) fun _ _ _ ⟨_, G, _, r, h⟩ => h.val r (hd G)

/-! ### argument lists, displays -/
def fNil : FA := fun s => .ok [] s
def fCons (f : FE) (g : FA) : FA := fun s => (f s).bind fun d s => (g s).bind fun ds s => .ok (d :: ds) s
/-- a starred one -/
def fStar (f : FE) (g : FA) : FA := fun s => (f s).bind fun d s => match d with
  | .list xs => (g s).bind fun ds s => .ok (xs ++ ds) s
  | .tuple xs => (g s).bind fun ds s => .ok (xs ++ ds) s
  | _ => .bad
def fTup (f : FA) : FE := fun s => (f s).bind fun ds s => if ds.length ≤ sizeLine then .ok (.tuple ds) s else .bad
def fLst (f : FA) : FE := fun s => (f s).bind fun ds s => if ds.length ≤ sizeLine then .ok (.list ds) s else .bad
theorem aNil : PA X [] (tA X.K ex W fNil) := PA.imp pa_nil fun _ _ _ ⟨_, _, _, r, h⟩ => h _ _ (Same.refl _) r [] .nil
theorem aCons {e : Expr} {es : List Expr} {f : FE} {g : FA} (hf : PE X e (tE X.K ex W f)) (hg : PA X es (tA X.K ex W g)) (hs : starEach (e :: es) X.env = (false, eval e X.env) :: starEach es X.env := by rfl) :
    PA X (e :: es) (tA X.K ex W (fCons f g)) := PA.imp (pa_cons hf hg hs) fun _ _ _ ⟨_, _, _, r, h⟩ =>
  inE r h fun d s1 G1 H1 v e1 r1 hv h1 => inA r1 h1 fun ds s2 G2 H2 vs e2 r2 hvs h2 => h2 _ _ (Same.refl _) r2 _ (.cons (hv.up e2) hvs)
theorem aStar {e : Expr} {es : List Expr} {p : Pos} {f : FE} {g : FA} (hf : PE X e (tE X.K ex W f)) (hg : PA X es (tA X.K ex W g)) :
    PA X (.Starred e p :: es) (tA X.K ex W (fStar f g)) := PA.imp (StX.pa_star hf hg) fun σ H Q ⟨_, _, _, r, h⟩ =>
  inE r h fun d s1 G1 H1 v e1 r1 hv h1 => by
    cases d with
    | list xs =>
      cases hv with
      | lst q1 q2 => exact ⟨_, _, rfl, .inr (r1.b.sub.seq q1), inA r1 h1 fun ds s2 G2 H2 vs e2 r2 hvs h2 => h2 _ _ (Same.refl _) r2 _ ((q2.up e2).app hvs)⟩
    | tuple xs =>
      cases hv with
      | tup q1 q2 => exact ⟨_, _, rfl, .inl (sqT_mono r1.b.sub q1), inA r1 h1 fun ds s2 G2 H2 vs e2 r2 hvs h2 => h2 _ _ (Same.refl _) r2 _ ((q2.up e2).app hvs)⟩
    | _ => exact h1.elim
/-- a new tuple's reading -/
theorem Rel.newTup {K : PySem.W.Frag} {c : Act} {G H : Hp} {σ : St} {s : S} {p : Addr} {vs : List V} {ds : List D} (r : Rel K c G H σ s) (hp : H p = none) (hd : DpAll K G vs ds) :
    Same G (upd G p (.tup vs)) ∧ Rel K c (upd G p (.tup vs)) (upd H p (.tup vs)) σ s ∧ Dp K (upd G p (.tup vs)) (.ref p) (.tuple ds) := by
  have sm : Same G (upd G p (.tup vs)) := same_upd (r.b.free hp).1
  exact ⟨sm, r.alloc hp, .tup (SqT.of upd_same) (hd.up sm)⟩
theorem Rel.newLst {K : PySem.W.Frag} {c : Act} {G H : Hp} {σ : St} {s : S} {p : Addr} {vs : List V} {ds : List D} (r : Rel K c G H σ s) (hp : H p = none) (hd : DpAll K G vs ds) :
    Same G (upd G p (.lst vs)) ∧ Rel K c (upd G p (.lst vs)) (upd H p (.lst vs)) σ s ∧ Dp K (upd G p (.lst vs)) (.ref p) (.list ds) := by
  have sm : Same G (upd G p (.lst vs)) := same_upd (r.b.free hp).1
  exact ⟨sm, r.alloc hp, .lst (SqL.of upd_same) (hd.up sm)⟩
theorem eTup {es : List Expr} {f : FA} {x1 pos} (h : PA X es (tA X.K ex W f)) : PE X (.Tuple es x1 pos) (tE X.K ex W (fTup f)) := PE.imp (pe_tup h) fun _ _ _ ⟨_, _, _, r, h⟩ =>
  inA r h fun ds s1 G1 H1 vs e1 r1 hvs h1 => by
    by_cases hl : ds.length ≤ sizeLine
    · rw [if_pos hl] at h1
      refine ⟨by rw [hvs.len]; exact hl, fun p hp => ?_⟩
      obtain ⟨sm, r2, hv⟩ := r1.newTup hp hvs
      exact (h1.up sm).val r2 hv
    · rw [if_neg hl] at h1
      exact h1.elim
theorem eLst {es : List Expr} {f : FA} {pos} (h : PA X es (tA X.K ex W f)) : PE X (.List es pos) (tE X.K ex W (fLst f)) := PE.imp (pe_lst h) fun _ _ _ ⟨_, _, _, r, h⟩ =>
  inA r h fun ds s1 G1 H1 vs e1 r1 hvs h1 => by
    by_cases hl : ds.length ≤ sizeLine
    · rw [if_pos hl] at h1
      refine ⟨by rw [hvs.len]; exact hl, fun p hp => ?_⟩
      obtain ⟨sm, r2, hv⟩ := r1.newLst hp hvs
      exact (h1.up sm).val r2 hv
    · rw [if_neg hl] at h1
      exact h1.elim

/-! ### operators -/
def fBin (op : D → D → Option D) (f g : FE) : FE := fun s => (f s).bind fun a s => (g s).bind fun b s => R.of (op a b) s
/-- an operation by values is told by op -/
def OpD (K : PySem.W.Frag) (r : R2) (op : D → D → Option D) : Prop :=
  ∀ (c : Act) (G H : Hp) (σ : St) (s : S) (x y : V) (a b d : D) (Q : VK), Rel K c G H σ s → Dp K G x a → Dp K G y b → op a b = some d →
    (∀ v G' H', Same G G' → Rel K c G' H' σ s → Dp K G' v d → Q v H') → r x y H Q
theorem opFin {K : PySem.W.Frag} {c : Act} {G H : Hp} {σ : St} {s : S} {x y : V} {a b : D} {r : R2} {op : D → D → Option D} {Q : VK} (ho : OpD K r op) (rl : Rel K c G H σ s) (hx : Dp K G x a) (hy : Dp K G y b)
    (h : Post K ex W c G σ (fun d G' H' _ => ∀ v, Dp K G' v d → Q v H') (R.of (op a b) s)) : r x y H Q := by
  cases e : op a b with
  | none =>
    rw [e] at h
    exact h.elim
  | some d =>
    rw [e] at h
    exact ho c G H σ s x y a b d Q rl hx hy e fun v G' H' sm r' hv => (Post.up h sm).val r' hv
theorem eBin {a b : Expr} {op : Operator} {pos : Pos} {r : R2} {o : D → D → Option D} {f g : FE} (ho : OpR X (binaryOp op) r) (hd : OpD X.K r o) (hf : PE X a (tE X.K ex W f)) (hg : PE X b (tE X.K ex W g)) :
    PE X (.BinOp a op b pos) (tE X.K ex W (fBin o f g)) := PE.imp (pe_op ho hf hg) fun _ _ _ ⟨_, _, _, r, h⟩ =>
  inE r h fun d s1 G1 H1 v e1 r1 hv h1 => inE r1 h1 fun d' s2 G2 H2 v' e2 r2 hv' h2 => opFin hd r2 (hv.up e2) hv' h2
theorem eCmp {a b : Expr} {op : CmpOp} {pos : Pos} {r : R2} {o : D → D → Option D} {f g : FE} (ho : OpR X (compareOp op) r) (hd : OpD X.K r o) (hf : PE X a (tE X.K ex W f)) (hg : PE X b (tE X.K ex W g)) (hm : behindInMarks op b = false := by first | exact nomark _ | rfl) :
    PE X (.Compare a [op] [b] pos) (tE X.K ex W (fBin o f g)) := PE.imp (pe_cmpR ho hf hg hm) fun _ _ _ ⟨_, _, _, r, h⟩ =>
  inE r h fun d s1 G1 H1 v e1 r1 hv h1 => inE r1 h1 fun d' s2 G2 H2 v' e2 r2 hv' h2 => opFin hd r2 (hv.up e2) hv' h2
end

/-! the operators -/
def dI (g : Int → Int → Option Int) (a b : D) : Option D :=
  match a, b with
  | .int i, .int j => (g i j).map .int
  | _, _ => none
def dB (g : Int → Int → Bool) (a b : D) : Option D :=
  match a, b with
  | .int i, .int j => some (.bool (g i j))
  | _, _ => none
section
variable {K : PySem.W.Frag}
theorem opdI {C : Int → Int → Prop} {g : Int → Int → Int} {o : Int → Int → Option Int} (h : ∀ i j k, o i j = some k → C i j ∧ k = g i j) : OpD K (rI C fun i j => .int (g i j)) (dI o) := by
  intro c G H σ s x y a b d Q r hx hy e q
  unfold dI at e
  split at e
  · rename_i i j
    cases hx
    cases hy
    cases e2 : o i j with
    | none => rw [e2] at e; cases e
    | some k =>
      rw [e2] at e
      cases e
      obtain ⟨h1, rfl⟩ := h i j k e2
      exact ⟨i, j, rfl, rfl, h1, q _ G H (Same.refl _) r (.int _)⟩
  · cases e
theorem opdI0 {g : Int → Int → Int} : OpD K (rI0 fun i j => .int (g i j)) (dI fun i j => some (g i j)) := by
  intro c G H σ s x y a b d Q r hx hy e q
  unfold dI at e
  split at e
  · rename_i i j
    cases hx
    cases hy
    cases e
    exact ⟨i, j, rfl, rfl, q _ G H (Same.refl _) r (.int _)⟩
  · cases e
theorem opdB0 {g : Int → Int → Bool} : OpD K (rI0 fun i j => .bl (g i j)) (dB g) := by
  intro c G H σ s x y a b d Q r hx hy e q
  unfold dB at e
  split at e
  · rename_i i j
    cases hx
    cases hy
    cases e
    exact ⟨i, j, rfl, rfl, q _ G H (Same.refl _) r (.bl _)⟩
  · cases e
theorem OpD.or {r r' : R2} {o o' : D → D → Option D} (h : OpD K r o) (h' : OpD K r' o') : OpD K (fun x y H Q => r x y H Q ∨ r' x y H Q) (fun a b => (o a b).or (o' a b)) := by
  intro c G H σ s x y a b d Q rl hx hy e q
  cases e1 : o a b with
  | some d1 =>
    have : d1 = d := by simpa [e1] using e
    subst this
    exact .inl (h c G H σ s x y a b _ Q rl hx hy e1 q)
  | none =>
    have : o' a b = some d := by simpa [e1] using e
    exact .inr (h' c G H σ s x y a b _ Q rl hx hy this q)
end
end PD
/-! PD3: the operators' functions; tests; lists of one's own; built-in calls. -/
namespace PD
open PySem PySem.Spec L2
open PyProof.Rows hiding St
variable [WI]

/-! ### operators by data -/
def dAddI : D → D → Option D := dI fun i j => some (i + j)
def dAddS (a b : D) : Option D :=
  match a, b with
  | .str x, .str y => if x.length + y.length ≤ sizeLine then some (.str (x ++ y)) else none
  | _, _ => none
def dAddT (a b : D) : Option D :=
  match a, b with
  | .tuple x, .tuple y => if x.length + y.length ≤ sizeLine then some (.tuple (x ++ y)) else none
  | _, _ => none
def dSub : D → D → Option D := dI fun i j => some (i - j)
instance : Decidable (CMul i j) := by unfold CMul; infer_instance
instance : Decidable (CMulW i j) := by unfold CMulW; infer_instance
instance : Decidable (CDivW i j) := by unfold CDivW; infer_instance
instance : Decidable (CShl i j) := by unfold CShl; infer_instance
instance : Decidable (CPow i j) := by unfold CPow; infer_instance
def CMulX (i j : Int) : Prop := CMul i j ∨ CMulW i j
instance : Decidable (CMulX i j) := by unfold CMulX; infer_instance
theorem CMulX.ok {i j : Int} (h : CMulX i j) : IntMulOk i j := h.elim CMul.ok CMulW.ok
theorem op_mulX {X : Cx} : OpR X (binaryOp .Mult) (rI CMulX fun i j => .int (i * j)) := opI fun _ _ _ _ _ _ _ hc q => mul_int q hc.ok
theorem iop_mulX {X : Cx} : OpR X (inplaceOp .Mult) (rI CMulX fun i j => .int (i * j)) := opI fun _ _ _ _ _ _ _ hc q => imul_int q hc.ok
def dMul : D → D → Option D := dI fun i j => if CMulX i j then some (i * j) else none
def dDiv : D → D → Option D := dI fun i j => if CDivW i j then some (i / j) else none
def dMod : D → D → Option D := dI fun i j => if 0 < j then some (i % j) else none
def dPow : D → D → Option D := dI fun i j => if CPow i j then some (i ^ j.toNat) else none
def dShl : D → D → Option D := dI fun i j => if CShl i j then some (i * 2 ^ j.toNat) else none
def dShr : D → D → Option D := dI fun i j => if 0 ≤ j then some (i / 2 ^ j.toNat) else none
def dAnd : D → D → Option D := dI fun i j => some (Builtin.bitAnd i j)
def dOr : D → D → Option D := dI fun i j => some (Builtin.bitOr i j)
def dXor : D → D → Option D := dI fun i j => some (Builtin.bitXor i j)
def dLt : D → D → Option D := dB fun i j => decide (i < j)
def dLe : D → D → Option D := dB fun i j => decide (i ≤ j)
def dGt : D → D → Option D := dB fun i j => decide (j < i)
def dGe : D → D → Option D := dB fun i j => decide (j ≤ i)
/-- == of data of any depth -/
def dEq (a b : D) : Option D := if SeqAt.shaped a = true ∧ SeqAt.shaped b = true then some (.bool (PyData.eqv a b)) else none
def dNe (a b : D) : Option D := if SeqAt.shaped a = true ∧ SeqAt.shaped b = true then some (.bool (!PyData.eqv a b)) else none
def isNone : D → Bool
  | .none => true
  | _ => false
def dIsN (a b : D) : Option D := match b with | .none => some (.bool (isNone a)) | _ => none
def dNotN (a b : D) : Option D := match b with | .none => some (.bool (!isNone a)) | _ => none
section
variable {K : PySem.W.Frag}
theorem opdIf {C : Int → Int → Prop} [∀ i j, Decidable (C i j)] {g : Int → Int → Int} : OpD K (rI C fun i j => .int (g i j)) (dI fun i j => if C i j then some (g i j) else none) := opdI fun i j k e => by
  by_cases h : C i j
  · rw [if_pos h] at e
    cases e
    exact ⟨h, rfl⟩
  · rw [if_neg h] at e
    cases e
theorem od_addI : OpD K (rI0 fun i j => .int (i + j)) dAddI := opdI0
theorem od_sub : OpD K (rI0 fun i j => .int (i - j)) dSub := opdI0
theorem od_and : OpD K (rI0 fun i j => .int (Builtin.bitAnd i j)) dAnd := opdI0
theorem od_or : OpD K (rI0 fun i j => .int (Builtin.bitOr i j)) dOr := opdI0
theorem od_xor : OpD K (rI0 fun i j => .int (Builtin.bitXor i j)) dXor := opdI0
theorem od_mul : OpD K (rI CMulX fun i j => .int (i * j)) dMul := opdIf
theorem od_div : OpD K (rI CDivW fun i j => .int (i / j)) dDiv := opdIf
theorem od_mod : OpD K (rI (fun _ j => 0 < j) fun i j => .int (i % j)) dMod := opdIf (C := fun _ j => 0 < j) (g := fun i j => i % j)
theorem od_pow : OpD K (rI CPow fun i j => .int (i ^ j.toNat)) dPow := opdIf
theorem od_shl : OpD K (rI CShl fun i j => .int (i * 2 ^ j.toNat)) dShl := opdIf
theorem od_shr : OpD K (rI (fun _ j => 0 ≤ j) fun i j => .int (i / 2 ^ j.toNat)) dShr := opdIf (C := fun _ j => 0 ≤ j) (g := fun i j => i / 2 ^ j.toNat)
theorem od_lt : OpD K (rI0 fun i j => .bl (decide (i < j))) dLt := opdB0
theorem od_le : OpD K (rI0 fun i j => .bl (decide (i ≤ j))) dLe := opdB0
theorem od_gt : OpD K (rI0 fun i j => .bl (decide (j < i))) dGt := opdB0
theorem od_ge : OpD K (rI0 fun i j => .bl (decide (j ≤ i))) dGe := opdB0
def rAddS : R2 := fun x y H Q => ∃ i j, x = .str i ∧ y = .str j ∧ i.length + j.length ≤ sizeLine ∧ Q (.str (i ++ j)) H
theorem od_addS : OpD K rAddS dAddS := by
  intro c G H σ s x y a b d Q r hx hy e q
  unfold dAddS at e
  split at e
  · rename_i i j
    cases hx
    cases hy
    by_cases h : i.length + j.length ≤ sizeLine
    · rw [if_pos h] at e
      cases e
      exact ⟨i, j, rfl, rfl, h, q _ G H (Same.refl _) r (.str _)⟩
    · rw [if_neg h] at e
      cases e
  · cases e
theorem od_addT : OpD K (rCatA K) dAddT := by
  intro c G H σ s x y a b d Q r hx hy e q
  unfold dAddT at e
  split at e
  · rename_i i j
    cases hx with
    | tup q1 q2 =>
      cases hy with
      | tup q3 q4 =>
        rename_i a xs b ys
        by_cases h : i.length + j.length ≤ sizeLine
        · rw [if_pos h] at e
          cases e
          refine ⟨a, b, xs, ys, rfl, rfl, sqT_mono r.b.sub q1, sqT_mono r.b.sub q3, by rw [q2.len, q4.len]; exact h, fun z => ?_, fun _ z => ?_, fun _ _ p hp => ?_⟩
          · subst z
            cases q2
            exact q _ G H (Same.refl _) r (.tup q3 q4)
          · subst z
            cases q4
            rw [List.append_nil] at q
            exact q _ G H (Same.refl _) r (.tup q1 q2)
          · obtain ⟨sm, r2, hv⟩ := r.newTup hp (q2.app q4)
            exact q _ _ _ sm r2 hv
        · rw [if_neg h] at e
          cases e
  · cases e
theorem od_eq : OpD K (rEqD K) dEq := by
  intro c G H σ s x y a b d Q r hx hy e q
  unfold dEq at e
  split at e
  · rename_i h
    cases e
    exact ⟨a, b, (hx.up r.b.sub).kit h.1, (hy.up r.b.sub).kit h.2, h.1, h.2, q _ G H (Same.refl _) r (.bl _)⟩
  · cases e
theorem od_ne : OpD K (rNeD K) dNe := by
  intro c G H σ s x y a b d Q r hx hy e q
  unfold dNe at e
  split at e
  · rename_i h
    cases e
    exact ⟨a, b, (hx.up r.b.sub).kit h.1, (hy.up r.b.sub).kit h.2, h.1, h.2, q _ G H (Same.refl _) r (.bl _)⟩
  · cases e
theorem none_of {G : Hp} {x : V} {a : D} (h : Dp K G x a) : decide (x = .non) = isNone a := by cases h <;> rfl
theorem od_isN : OpD K (fun x y H Q => y = .non ∧ Q (.bl (decide (x = .non))) H) dIsN := by
  intro c G H σ s x y a b d Q r hx hy e q
  unfold dIsN at e
  split at e
  · cases hy
    cases e
    refine ⟨rfl, ?_⟩
    rw [none_of hx]
    exact q _ G H (Same.refl _) r (.bl _)
  · cases e
theorem od_notN : OpD K (fun x y H Q => y = .non ∧ Q (.bl (!decide (x = .non))) H) dNotN := by
  intro c G H σ s x y a b d Q r hx hy e q
  unfold dNotN at e
  split at e
  · cases hy
    cases e
    refine ⟨rfl, ?_⟩
    rw [none_of hx]
    exact q _ G H (Same.refl _) r (.bl _)
  · cases e
end
section
variable {X : Cx} {ex : ExT} {W : WX} {a b : Expr} {f g : FE} {pos : Pos}
theorem eAdd (hf : PE X a (tE X.K ex W f)) (hg : PE X b (tE X.K ex W g)) : PE X (.BinOp a .Add b pos) (tE X.K ex W (fBin dAddI f g)) := eBin op_add od_addI hf hg
theorem eAddS (hf : PE X a (tE X.K ex W f)) (hg : PE X b (tE X.K ex W g)) : PE X (.BinOp a .Add b pos) (tE X.K ex W (fBin dAddS f g)) := eBin (r := rAddS) op_add_str od_addS hf hg
theorem eAddT (hf : PE X a (tE X.K ex W f)) (hg : PE X b (tE X.K ex W g)) : PE X (.BinOp a .Add b pos) (tE X.K ex W (fBin dAddT f g)) := eBin op_catA od_addT hf hg
theorem eSub (hf : PE X a (tE X.K ex W f)) (hg : PE X b (tE X.K ex W g)) : PE X (.BinOp a .Sub b pos) (tE X.K ex W (fBin dSub f g)) := eBin op_sub od_sub hf hg
theorem eMul (hf : PE X a (tE X.K ex W f)) (hg : PE X b (tE X.K ex W g)) : PE X (.BinOp a .Mult b pos) (tE X.K ex W (fBin dMul f g)) := eBin op_mulX od_mul hf hg
theorem eDiv (hf : PE X a (tE X.K ex W f)) (hg : PE X b (tE X.K ex W g)) : PE X (.BinOp a .FloorDiv b pos) (tE X.K ex W (fBin dDiv f g)) := eBin op_fdivW od_div hf hg
theorem eMod (hf : PE X a (tE X.K ex W f)) (hg : PE X b (tE X.K ex W g)) : PE X (.BinOp a .Mod b pos) (tE X.K ex W (fBin dMod f g)) := eBin op_mod od_mod hf hg
theorem ePow (hf : PE X a (tE X.K ex W f)) (hg : PE X b (tE X.K ex W g)) : PE X (.BinOp a .Pow b pos) (tE X.K ex W (fBin dPow f g)) := eBin op_pow od_pow hf hg
theorem eShl (hf : PE X a (tE X.K ex W f)) (hg : PE X b (tE X.K ex W g)) : PE X (.BinOp a .LShift b pos) (tE X.K ex W (fBin dShl f g)) := eBin op_shlW od_shl hf hg
theorem eShr (hf : PE X a (tE X.K ex W f)) (hg : PE X b (tE X.K ex W g)) : PE X (.BinOp a .RShift b pos) (tE X.K ex W (fBin dShr f g)) := eBin op_shr od_shr hf hg
theorem eAndB (hf : PE X a (tE X.K ex W f)) (hg : PE X b (tE X.K ex W g)) : PE X (.BinOp a .BitAnd b pos) (tE X.K ex W (fBin dAnd f g)) := eBin op_and od_and hf hg
theorem eOrB (hf : PE X a (tE X.K ex W f)) (hg : PE X b (tE X.K ex W g)) : PE X (.BinOp a .BitOr b pos) (tE X.K ex W (fBin dOr f g)) := eBin op_or od_or hf hg
theorem eXorB (hf : PE X a (tE X.K ex W f)) (hg : PE X b (tE X.K ex W g)) : PE X (.BinOp a .BitXor b pos) (tE X.K ex W (fBin dXor f g)) := eBin op_xor od_xor hf hg
theorem eLt (hf : PE X a (tE X.K ex W f)) (hg : PE X b (tE X.K ex W g)) : PE X (.Compare a [.Lt] [b] pos) (tE X.K ex W (fBin dLt f g)) := eCmp op_lt od_lt hf hg
theorem eLe (hf : PE X a (tE X.K ex W f)) (hg : PE X b (tE X.K ex W g)) : PE X (.Compare a [.LtE] [b] pos) (tE X.K ex W (fBin dLe f g)) := eCmp op_le od_le hf hg
theorem eGt (hf : PE X a (tE X.K ex W f)) (hg : PE X b (tE X.K ex W g)) : PE X (.Compare a [.Gt] [b] pos) (tE X.K ex W (fBin dGt f g)) := eCmp op_gt od_gt hf hg
theorem eGe (hf : PE X a (tE X.K ex W f)) (hg : PE X b (tE X.K ex W g)) : PE X (.Compare a [.GtE] [b] pos) (tE X.K ex W (fBin dGe f g)) := eCmp op_ge od_ge hf hg
theorem eEq {k : Nat} (hr : Room k X.A) (hf : PE X a (tE X.K ex W f)) (hg : PE X b (tE X.K ex W g)) : PE X (.Compare a [.Eq] [b] pos) (tE X.K ex W (fBin dEq f g)) := eCmp (op_eqD hr.units) od_eq hf hg
theorem eNe {k : Nat} (hr : Room k X.A) (hf : PE X a (tE X.K ex W f)) (hg : PE X b (tE X.K ex W g)) : PE X (.Compare a [.NotEq] [b] pos) (tE X.K ex W (fBin dNe f g)) := eCmp (op_neD hr.units) od_ne hf hg
theorem eIsN (hf : PE X a (tE X.K ex W f)) (hg : PE X b (tE X.K ex W g)) : PE X (.Compare a [.Is] [b] pos) (tE X.K ex W (fBin dIsN f g)) := eCmp op_isN od_isN hf hg
theorem eNotN (hf : PE X a (tE X.K ex W f)) (hg : PE X b (tE X.K ex W g)) : PE X (.Compare a [.IsNot] [b] pos) (tE X.K ex W (fBin dNotN f g)) := eCmp op_notN od_notN hf hg

/-! ### tests, and, or, not, if .. else -/
def toB (d : D) (s : S) : R Bool :=
  match d with
  | .bool b => .ok b s
  | _ => .bad
def tVal (f : FE) : FT := fun s => (f s).bind toB
def fAnd (f g : FT) : FT := fun s => (f s).bind fun b s => if b = true then g s else .ok false s
def fOr (f g : FT) : FT := fun s => (f s).bind fun b s => if b = true then .ok true s else g s
def fNot (f : FT) : FT := fun s => (f s).bind fun b s => .ok (!b) s
def fAndV (f g : FE) : FE := fun s => (f s).bind fun d s => (toB d s).bind fun b s => if b = true then g s else .ok (.bool false) s
def fOrV (f g : FE) : FE := fun s => (f s).bind fun d s => (toB d s).bind fun b s => if b = true then .ok (.bool true) s else g s
def fNotV (f : FE) : FE := fun s => (f s).bind fun d s => (toB d s).bind fun b s => .ok (.bool (!b)) s
def fIf (c : FT) (f g : FE) : FE := fun s => (c s).bind fun b s => if b = true then f s else g s
theorem toB_in {α : Type} {K : PySem.W.Frag} {c : Act} {G : Hp} {σ : St} {s : S} {d : D} {v : V} {g : Bool → S → R α} {N : α → Hp → Hp → S → Prop} (hv : Dp K G v d) (h : Post K ex W c G σ N ((toB d s).bind g)) : ∃ b, d = .bool b ∧ v = .bl b ∧ Post K ex W c G σ N (g b s) := by
  cases d with
  | bool b =>
    cases hv
    exact ⟨b, rfl, rfl, h⟩
  | _ => exact h.elim
theorem tOf (hf : PE X a (tE X.K ex W f)) (he : ∀ whole, isTrue a X.env whole = (do let v ← whole; standAt a.pos; holding [v] (truthy v)) := by intro _; rfl) : PT X a (tT X.K ex W (tVal f)) :=
  PT.imp (pt_val hf he) fun σ H Q ⟨_, _, _, r, h⟩ => inE r h fun d s1 G1 H1 v e1 r1 hv h1 => by
    cases d with
    | bool b =>
      cases hv
      exact ⟨b, rfl, h1.val' r1⟩
    | _ => exact h1.elim
variable {c d : FT} {rest : List Expr} {pos' : Pos}
theorem tAnd1 (h : PT X a (tT X.K ex W c)) : PW X (.BoolOp .And [a] pos) (tT X.K ex W c) := pw_and1 h
theorem tOr1 (h : PT X a (tT X.K ex W c)) : PW X (.BoolOp .Or [a] pos) (tT X.K ex W c) := pw_or1 h
theorem tAndW (h : PT X a (tT X.K ex W c)) (h' : PW X (.BoolOp .And (b :: rest) pos) (tT X.K ex W d)) : PW X (.BoolOp .And (a :: b :: rest) pos) (tT X.K ex W (fAnd c d)) :=
  PW.imp (pw_and h h') fun σ H Q ⟨_, _, _, r, q⟩ => inT r q fun k s1 G1 H1 e1 r1 q1 => by
    cases k with
    | true => exact ⟨_, _, _, r1, q1⟩
    | false => exact q1.val' r1
theorem tOrW (h : PT X a (tT X.K ex W c)) (h' : PW X (.BoolOp .Or (b :: rest) pos) (tT X.K ex W d)) : PW X (.BoolOp .Or (a :: b :: rest) pos) (tT X.K ex W (fOr c d)) :=
  PW.imp (pw_or h h') fun σ H Q ⟨_, _, _, r, q⟩ => inT r q fun k s1 G1 H1 e1 r1 q1 => by
    cases k with
    | false => exact ⟨_, _, _, r1, q1⟩
    | true => exact q1.val' r1
theorem tNotT (h : PT X a (tT X.K ex W c)) : PT X (.UnaryOp .Not a pos) (tT X.K ex W (fNot c)) :=
  PT.imp (pt_not h) fun σ H Q ⟨_, _, _, r, q⟩ => inT r q fun k s1 G1 H1 e1 r1 q1 => q1.val' r1
theorem eAndV {f g : FE} (h : PE X a (tE X.K ex W f)) (h' : PE X (.BoolOp .And (b :: rest) pos) (tE X.K ex W g)) : PE X (.BoolOp .And (a :: b :: rest) pos) (tE X.K ex W (fAndV f g)) :=
  PE.imp (pe_and h h') fun σ H Q ⟨_, _, _, r, q⟩ => inE r q fun dd s1 G1 H1 v e1 r1 hv q1 => by
    obtain ⟨k, rfl, rfl, q2⟩ := toB_in hv q1
    refine ⟨k, rfl, ?_⟩
    cases k with
    | true => exact ⟨_, _, _, r1, q2⟩
    | false => exact q2.val r1 (.bl _)
theorem eOrV {f g : FE} (h : PE X a (tE X.K ex W f)) (h' : PE X (.BoolOp .Or (b :: rest) pos) (tE X.K ex W g)) : PE X (.BoolOp .Or (a :: b :: rest) pos) (tE X.K ex W (fOrV f g)) :=
  PE.imp (pe_or h h') fun σ H Q ⟨_, _, _, r, q⟩ => inE r q fun dd s1 G1 H1 v e1 r1 hv q1 => by
    obtain ⟨k, rfl, rfl, q2⟩ := toB_in hv q1
    refine ⟨k, rfl, ?_⟩
    cases k with
    | false => exact ⟨_, _, _, r1, q2⟩
    | true => exact q2.val r1 (.bl _)
theorem eOneV {op} {f : FE} (h : PE X a (tE X.K ex W f)) : PE X (.BoolOp op [a] pos) (tE X.K ex W f) := pe_one h
theorem eNotV {f : FE} (h : PE X a (tE X.K ex W f)) : PE X (.UnaryOp .Not a pos) (tE X.K ex W (fNotV f)) :=
  PE.imp (pe_not h) fun σ H Q ⟨_, _, _, r, q⟩ => inE r q fun dd s1 G1 H1 v e1 r1 hv q1 => by
    obtain ⟨k, rfl, rfl, q2⟩ := toB_in hv q1
    exact ⟨k, rfl, q2.val r1 (.bl _)⟩
theorem eIfE {t : Expr} {f g : FE} (hc : PT X t (tT X.K ex W c)) (hf : PE X a (tE X.K ex W f)) (hg : PE X b (tE X.K ex W g)) : PE X (.IfExp t a b pos) (tE X.K ex W (fIf c f g)) :=
  PE.imp (pe_ifExp hc hf hg) fun σ H Q ⟨_, _, _, r, q⟩ => inT r q fun k s1 G1 H1 e1 r1 q1 => by
    cases k with
    | true => exact ⟨_, _, _, r1, q1⟩
    | false => exact ⟨_, _, _, r1, q1⟩
/-- -a -/
def fNeg (f : FE) : FE := fun s => (f s).bind fun d s => match d with
  | .int i => .ok (.int (-i)) s
  | _ => .bad
theorem eNeg {f : FE} (h : PE X a (tE X.K ex W f)) : PE X (.UnaryOp .USub a pos) (tE X.K ex W (fNeg f)) :=
  PE.imp (pe_un un_neg h) fun σ H Q ⟨_, _, _, r, q⟩ => inE r q fun dd s1 G1 H1 v e1 r1 hv q1 => by
    cases dd with
    | int i =>
      cases hv
      exact ⟨i, rfl, q1.val r1 (.int _)⟩
    | _ => exact q1.elim
end
end PD
/-! PD4: statements, targets, loops. -/
namespace PD
open PySem PySem.Spec L2
open PyProof.Rows hiding St
variable [WI]

/-- what a statement does on a state -/
inductive O where
  | nx (s : S)
  | rt (d : D) (s : S)
  | bk (s : S)
  | ct (s : S)
  | exc (k : Nat) (as : List D) (s : S)
  | bad
abbrev FO := S → O
@[inline] def R.stm {α : Type} (r : R α) (f : α → S → O) : O :=
  match r with
  | .ok a s => f a s
  | .exc k as s => .exc k as s
  | .bad => .bad
@[inline] def O.seq (o : O) (f : S → O) : O :=
  match o with
  | .nx s => f s
  | o => o
@[simp] theorem R.stm_ok {α : Type} (a : α) (s : S) (f : α → S → O) : (R.ok a s).stm f = f a s := rfl
@[simp] theorem R.stm_exc {α : Type} (k : Nat) (as : List D) (s : S) (f : α → S → O) : (R.exc k as s : R α).stm f = .exc k as s := rfl
@[simp] theorem R.stm_bad {α : Type} (f : α → S → O) : (R.bad : R α).stm f = .bad := rfl
@[simp] theorem O.seq_nx (s : S) (f : S → O) : (O.nx s).seq f = f s := rfl
@[simp] theorem O.seq_rt (d : D) (s : S) (f : S → O) : (O.rt d s).seq f = .rt d s := rfl
@[simp] theorem O.seq_bk (s : S) (f : S → O) : (O.bk s).seq f = .bk s := rfl
@[simp] theorem O.seq_ct (s : S) (f : S → O) : (O.ct s).seq f = .ct s := rfl
@[simp] theorem O.seq_exc (k : Nat) (as : List D) (s : S) (f : S → O) : (O.exc k as s).seq f = .exc k as s := rfl
@[simp] theorem O.seq_bad (f : S → O) : (O.bad).seq f = .bad := rfl

def PostO (K : PySem.W.Frag) (ex : ExT) (W : WX) (c : Act) (G : Hp) (En : Ends) : O → Prop
  | .nx s' => ∀ σ' G' H', Same G G' → Rel K c G' H' σ' s' → En.nx σ' H'
  | .rt d s' => ∀ v σ' G' H', Same G G' → Rel K c G' H' σ' s' → Dp K G' v d → En.rt v H'
  | .bk s' => ∀ σ' G' H', Same G G' → Rel K c G' H' σ' s' → En.bk σ' H'
  | .ct s' => ∀ σ' G' H', Same G G' → Rel K c G' H' σ' s' → En.ct σ' H'
  | .exc k as s' => ∀ cls dx σ' G' H', Same G G' → Rel K c G' H' σ' s' → ExcIs K ex k as cls dx G' H' → W cls dx σ' H'
  | .bad => False
def tS (K : PySem.W.Frag) (ex : ExT) (W : WX) (f : FO) : TS := fun En σ H => ∃ c G s, Rel K c G H σ s ∧ PostO K ex W c G En (f s)
section
variable {K : PySem.W.Frag} {ex : ExT} {W : WX} {c : Act} {G H : Hp} {σ : St} {s : S} {En : Ends}
theorem PostO.up {G' : Hp} {o : O} (h : PostO K ex W c G En o) (e : Same G G') : PostO K ex W c G' En o := by
  cases o with
  | nx s => exact fun σ' G2 H2 e2 r2 => h σ' G2 H2 (e.trans e2) r2
  | rt d s => exact fun v σ' G2 H2 e2 r2 => h v σ' G2 H2 (e.trans e2) r2
  | bk s => exact fun σ' G2 H2 e2 r2 => h σ' G2 H2 (e.trans e2) r2
  | ct s => exact fun σ' G2 H2 e2 r2 => h σ' G2 H2 (e.trans e2) r2
  | exc k as s => exact fun cls dx σ' G2 H2 e2 r2 => h cls dx σ' G2 H2 (e.trans e2) r2
  | bad => exact h
theorem PostO.fromR {α : Type} {r : R α} {g : α → S → O} {N : α → Hp → Hp → S → Prop} (h : PostO K ex W c G En (r.stm g)) (next : ∀ a s' G' H', Same G G' → Rel K c G' H' σ s' → PostO K ex W c G' En (g a s') → N a G' H' s') : Post K ex W c G σ N r := by
  cases r with
  | ok a s => exact fun G2 H2 e2 r2 => next a s G2 H2 e2 r2 (h.up e2)
  | exc k as s => exact fun cls dx G2 H2 e2 r2 hx => h cls dx σ G2 H2 e2 r2 hx
  | bad => exact h
theorem soE {f : FE} {g : D → S → O} {N : V → Hp → Prop} (r : Rel K c G H σ s) (h : PostO K ex W c G En ((f s).stm g))
    (next : ∀ d s' G' H' v, Same G G' → Rel K c G' H' σ s' → Dp K G' v d → PostO K ex W c G' En (g d s') → N v H') : tE K ex W f σ H N :=
  ⟨c, G, s, r, h.fromR fun a s' G' H' e r' q v hv => next a s' G' H' v e r' hv q⟩
theorem soA {f : FA} {g : List D → S → O} {N : List V → Hp → Prop} (r : Rel K c G H σ s) (h : PostO K ex W c G En ((f s).stm g))
    (next : ∀ ds s' G' H' vs, Same G G' → Rel K c G' H' σ s' → DpAll K G' vs ds → PostO K ex W c G' En (g ds s') → N vs H') : tA K ex W f σ H N :=
  ⟨c, G, s, r, h.fromR fun a s' G' H' e r' q v hv => next a s' G' H' v e r' hv q⟩
theorem soT {f : FT} {g : Bool → S → O} {N : Bool → Hp → Prop} (r : Rel K c G H σ s) (h : PostO K ex W c G En ((f s).stm g))
    (next : ∀ b s' G' H', Same G G' → Rel K c G' H' σ s' → PostO K ex W c G' En (g b s') → N b H') : tT K ex W f σ H N :=
  ⟨c, G, s, r, h.fromR fun a s' G' H' e r' q => next a s' G' H' e r' q⟩
end

/-! ### blocks, if, return -/
def sNil : FO := fun s => .nx s
def sSeq (f g : FO) : FO := fun s => (f s).seq g
def sPass : FO := fun s => .nx s
def sBrk : FO := fun s => .bk s
def sCnt : FO := fun s => .ct s
def sRet (f : FE) : FO := fun s => (f s).stm fun d s => .rt d s
def sRetN : FO := fun s => .rt .none s
def sIf (c : FT) (f g : FO) : FO := fun s => (c s).stm fun b s => if b = true then f s else g s
def sAsg (f : FE) (tg : D → S → Option S) : FO := fun s => (f s).stm fun d s => match tg d s with
  | some s => .nx s
  | none => .bad
def sDrp (f : FE) : FO := fun s => (f s).stm fun _ s => .nx s
section
variable {X : Cx} {ex : ExT} {W : WX} {st : Stmt} {rest : List Stmt} {f g : FO} {e : Expr} {pos : Pos}
theorem bNil : PSs X [] (tS X.K ex W sNil) := PSs.imp pss_nil fun En σ H ⟨_, G, _, r, h⟩ => h σ G H (Same.refl _) r
theorem bCons (hf : PS X st (tS X.K ex W f)) (hg : PSs X rest (tS X.K ex W g)) : PSs X (st :: rest) (tS X.K ex W (sSeq f g)) :=
  PSs.imp (pss_cons hf hg) fun En σ H ⟨c, G, s, r, h⟩ => by
    refine ⟨c, G, s, r, ?_⟩
    have h : PostO X.K ex W c G En ((f s).seq g) := h
    cases q : f s with
    | nx s' =>
      rw [q] at h
      exact fun σ' G' H' e r' => ⟨c, G', s', r', PostO.up h e⟩
    | rt d s' => rw [q] at h; exact h
    | bk s' => rw [q] at h; exact h
    | ct s' => rw [q] at h; exact h
    | exc k as s' => rw [q] at h; exact h
    | bad => rw [q] at h; exact h
theorem bOne (hf : PS X st (tS X.K ex W f)) : PSs X [st] (tS X.K ex W f) := pss_one hf
theorem kPass : PS X (.Pass pos) (tS X.K ex W sPass) := PS.imp ps_pass fun En σ H ⟨_, G, _, r, h⟩ => h σ G H (Same.refl _) r
theorem kBrk : PS X (.Break pos) (tS X.K ex W sBrk) := PS.imp ps_break fun En σ H ⟨_, G, _, r, h⟩ => h σ G H (Same.refl _) r
theorem kCnt : PS X (.Continue pos) (tS X.K ex W sCnt) := PS.imp ps_continue fun En σ H ⟨_, G, _, r, h⟩ => h σ G H (Same.refl _) r
theorem kRet {f : FE} (hf : PE X e (tE X.K ex W f)) : PS X (.Return (some e) pos) (tS X.K ex W (sRet f)) :=
  PS.imp (ps_ret hf) fun En σ H ⟨_, _, _, r, h⟩ => soE r h fun d s1 G1 H1 v e1 r1 hv h1 => h1 v σ G1 H1 (Same.refl _) r1 hv
theorem kRetN : PS X (.Return none pos) (tS X.K ex W sRetN) := PS.imp ps_retN fun En σ H ⟨_, G, _, r, h⟩ => h .non σ G H (Same.refl _) r .non
theorem kIf {t : Expr} {a b : List Stmt} {c : FT} (hc : PT X t (tT X.K ex W c)) (hf : PSs X a (tS X.K ex W f)) (hg : PSs X b (tS X.K ex W g)) : PS X (.If t a b pos) (tS X.K ex W (sIf c f g)) :=
  PS.imp (ps_if hc hf hg) fun En σ H ⟨_, _, _, r, h⟩ => soT r h fun k s1 G1 H1 e1 r1 h1 => by
    cases k with
    | true => exact ⟨_, _, _, r1, h1⟩
    | false => exact ⟨_, _, _, r1, h1⟩
theorem kDrp {f : FE} (hf : PE X e (tE X.K ex W f)) (hs : swapsWith e none pos.line X.env = pure false := by rfl) : PS X (.Expr e pos) (tS X.K ex W (sDrp f)) :=
  PS.imp (ps_expr hf hs) fun En σ H ⟨_, _, _, r, h⟩ => soE r h fun d s1 G1 H1 v e1 r1 hv h1 => h1 σ G1 H1 (Same.refl _) r1

/-! ### targets -/
abbrev FG := D → S → Option S
/-- the slots beside l stay -/
def Keeps (l : List Nat) (σ σ' : St) : Prop := σ'.length = σ.length ∧ ∀ (j : Nat), j ∉ l → σ'[j]? = σ[j]?
theorem Keeps.refl {l : List Nat} {σ : St} : Keeps l σ σ := ⟨rfl, fun _ _ => rfl⟩
theorem Keeps.set {i : Nat} {σ : St} {v : Option V} : Keeps [i] σ (σ.set i v) := ⟨List.length_set, fun j hj => by
  rw [List.getElem?_set_ne (fun e => hj (by simp [e]))]⟩
theorem Keeps.trans {l m : List Nat} {σ σ' σ'' : St} (a : Keeps l σ σ') (b : Keeps m σ' σ'') : Keeps (l ++ m) σ σ'' :=
  ⟨b.1.trans a.1, fun j hj => (b.2 j fun z => hj (List.mem_append_right _ z)).trans (a.2 j fun z => hj (List.mem_append_left _ z))⟩
def tG (K : PySem.W.Frag) (l : List Nat) (tg : FG) : TG := fun v σ H Q => ∃ c G s d s', Rel K c G H σ s ∧ Dp K G v d ∧ tg d s = some s' ∧ ∀ σ', Keeps l σ σ' → Rel K c G H σ' s' → Q σ' H
abbrev FGs := List D → S → Option S
def tGs (K : PySem.W.Frag) (l : List Nat) (tg : FGs) : TGs := fun vs σ H Q => ∃ c G s ds s', Rel K c G H σ s ∧ DpAll K G vs ds ∧ tg ds s = some s' ∧ ∀ σ', Keeps l σ σ' → Rel K c G H σ' s' → Q σ' H
def gNm (i : Nat) : FG := fun d s => some (s.put i (.val d))
def gNo : FGs := fun ds s => match ds with
  | [] => some s
  | _ => none
def gCo (g : FG) (h : FGs) : FGs := fun ds s => match ds with
  | d :: r => (g d s).bind (h r)
  | [] => none
def gTp (n : Nat) (h : FGs) : FG := fun d s => match d with
  | .tuple ds => if ds.length = n then h ds s else none
  | _ => none
theorem gName_ {i : Nat} {x : Str} (hN : X.N.Nodup) (hi : X.N[i]? = some x := by rfl) (hx : Loc X.env.scope x := by first | exact Or.inl rfl | exact Or.inr rfl) (hf : X.fn x = true ∨ X.env.scope.names.lookup x = some .local := by first | exact .inl rfl | exact .inr rfl) :
    PG X (.Name x pos) (tG X.K [i] (gNm i)) := PG.imp (pg_name hN hi hx hf) fun v σ H Q ⟨c, G, s, d, s', r, hv, e, q⟩ => by
  cases e
  exact q _ Keeps.set (r.put i hv fun z => nomatch z)
theorem gsNil : PGs X [] (tGs X.K [] gNo) := ⟨fun pins s σ H vs us Q I rv h => pgs_nil.run pins s σ H vs us Q I rv (by
  obtain ⟨c, G, s, ds, s', r, hv, e, q⟩ := h
  cases ds with
  | nil =>
    cases hv
    cases e
    exact ⟨rfl, q _ Keeps.refl r⟩
  | cons _ _ => cases e)⟩
theorem gsCons {t : Expr} {ts : List Expr} {l m : List Nat} {gf : FG} {hf : FGs} (h1 : PG X t (tG X.K l gf)) (h2 : PGs X ts (tGs X.K m hf))
    (hs : (assignEach (t :: ts) X.env).map (·.2) = assign t X.env :: (assignEach ts X.env).map (·.2) := by rfl) : PGs X (t :: ts) (tGs X.K (l ++ m) (gCo gf hf)) :=
  ⟨fun pins s σ H vs us Q I rv h => (pgs_cons h1 h2 hs).run pins s σ H vs us Q I rv (by
    obtain ⟨c, G, s, ds, s', r, hv, e, q⟩ := h
    cases ds with
    | nil => cases e
    | cons d ds =>
      cases hv with
      | cons a b =>
        have e : (gf d s).bind (hf ds) = some s' := e
        cases z : gf d s with
        | none => rw [z] at e; cases e
        | some s1 =>
          rw [z] at e
          exact ⟨_, _, rfl, c, G, s, d, s1, r, a, z, fun σ1 k1 r1 => ⟨c, G, s1, ds, s', r1, b, e, fun σ2 k2 r2 => q σ2 (k1.trans k2) r2⟩⟩)⟩
theorem gTup {es : List Expr} {k : Nat} {l : List Nat} {hf : FGs} {n : Nat} (hc : X.calm = true) (h : PGs X es (tGs X.K l hf)) (hn : (assignEach es X.env).length = n := by rfl) (hst : (assignEach es X.env).findIdx? (·.1) = none := by rfl) :
    PG X (.Tuple es k pos) (tG X.K l (gTp n hf)) := PG.imp (pg_tup hc h hn hst) fun v σ H Q ⟨c, G, s, d, s', r, hv, e, q⟩ => by
  unfold gTp at e
  cases d with
  | tuple ds =>
    cases hv with
    | tup q1 q2 =>
      by_cases hl : ds.length = n
      · have e : (if ds.length = n then hf ds s else none) = some s' := e
        rw [if_pos hl] at e
        exact ⟨_, _, rfl, sqT_mono r.b.sub q1, by rw [q2.len]; exact hl, c, G, s, ds, s', r, q2, e, q⟩
      · have e : (if ds.length = n then hf ds s else none) = some s' := e
        rw [if_neg hl] at e
        cases e
  | _ => cases e
/-- target = e -/
theorem kAsg {t e : Expr} {f : FE} {l : List Nat} {gf : FG} (he : PE X e (tE X.K ex W f)) (hg : PG X t (tG X.K l gf)) (hs : swapsWithSole [t] e pos.line X.env = pure false := by rfl) (hw : swappedStores [t] e X.env = pure none := by rfl)
    (h1 : (assignEach [t] X.env).map (·.2) = [assign t X.env] := by rfl) : PS X (.Assign [t] e pos) (tS X.K ex W (sAsg f gf)) :=
  PS.imp (ps_asg he hg hs hw h1) fun En σ H ⟨c, _, _, r, h⟩ => soE r h fun d s1 G1 H1 v e1 r1 hv h1 => by
    cases z : gf d s1 with
    | none =>
      simp only [z] at h1
      exact h1.elim
    | some s2 =>
      simp only [z] at h1
      exact ⟨c, G1, s1, d, s2, r1, hv, z, fun σ' _ r' => h1 σ' G1 H1 (Same.refl _) r'⟩
/-- name = e -/
theorem kSet {i : Nat} {x : Str} {e : Expr} {f : FE} {pos' : Pos} (hN : X.N.Nodup) (he : PE X e (tE X.K ex W f)) (hi : X.N[i]? = some x := by rfl) (hx : Loc X.env.scope x := by first | exact Or.inl rfl | exact Or.inr rfl)
    (hs : swapsWith e (some (.Name x pos')) pos.line X.env = pure false := by rfl) (hf : X.fn x = true ∨ X.env.scope.names.lookup x = some .local := by first | exact .inl rfl | exact .inr rfl) :
    PS X (.Assign [.Name x pos'] e pos) (tS X.K ex W (sAsg f (gNm i))) :=
  PS.imp (ps_set hN hi hx he hs hf) fun En σ H ⟨c, _, _, r, h⟩ => soE r h fun d s1 G1 H1 v e1 r1 hv h1 => h1 _ G1 H1 (Same.refl _) (r1.put i hv fun z => nomatch z)
/-- name op= e, the name's value data -/
def sAug (i : Nat) (o : D → D → Option D) (f : FE) : FO := fun s => (rdSlot s i).stm fun d s => (f s).stm fun d' s => (R.of (o d d') s).stm fun z s => .nx (s.put i (.val z))
theorem kAug {i : Nat} {x : Str} {e : Expr} {f : FE} {pos' : Pos} {op : Operator} {r : R2} {o : D → D → Option D} (ho : OpR X (inplaceOp op) r) (hd : OpD X.K r o) (hN : X.N.Nodup) (he : PE X e (tE X.K ex W f)) (hi : X.N[i]? = some x := by rfl)
    (hx : Loc X.env.scope x := by first | exact Or.inl rfl | exact Or.inr rfl) (hf : X.fn x = true ∨ X.env.scope.names.lookup x = some .local := by first | exact .inl rfl | exact .inr rfl) :
    PS X (.AugAssign (.Name x pos') op e pos) (tS X.K ex W (sAug i o f)) :=
  PS.imp (ps_aug hN hi hx he (ti := r) (fun pins s σ H x y v u Q I rx ry q => ho pins s σ H x y v u Q I rx ry q) hf) fun En σ H ⟨c, G, s, rl, h⟩ => by
    have h : PostO X.K ex W c G En ((rdSlot s i).stm fun d s => (f s).stm fun d' s => (R.of (o d d') s).stm fun z s => .nx (s.put i (.val z))) := h
    have key : ∀ {v : V} {d : D} {G0 : Hp} {s0 : S}, Rel X.K c G0 H σ s0 → Dp X.K G0 v d → PostO X.K ex W c G0 En ((f s0).stm fun d' s => (R.of (o d d') s).stm fun z s => .nx (s.put i (.val z))) →
        tE X.K ex W f σ H fun y H1 => r v y H1 fun z H2 => En.nx (σ.set i (some z)) H2 := fun {v d G0 s0} r0 hv h0 =>
      soE r0 h0 fun d' s1 G1 H1 v' e1 r1 hv' h1 => by
        cases z : o d d' with
        | none =>
          rw [z] at h1
          exact h1.elim
        | some y =>
          rw [z] at h1
          exact hd c G1 H1 σ s1 v v' d d' y _ r1 (hv.up e1) hv' z fun w G2 H2 e2 r2 hw => h1 _ G2 H2 e2 (r2.put i hw fun z => nomatch z)
    unfold rdSlot at h
    split at h
    · rename_i d hd
      obtain ⟨v, hv, he⟩ := rl.slot i _ hd
      exact ⟨v, hv, key rl he h⟩
    · rename_i ds hd
      obtain ⟨v, G', e, hv, hl, r'⟩ := rl.freeze hd
      exact ⟨v, hv, key r' hl (h.up e)⟩
    · rename_i ds hd
      obtain ⟨v, G', e, hv, hl, r'⟩ := rl.freezeD hd
      exact ⟨v, hv, key r' hl (h.up e)⟩
    · exact h.elim

/-! ### loops -/
/-- slots forgotten -/
def kill (l : List Nat) (s : S) : S := l.foldl (fun s i => s.drop i) s
theorem Rel.kill {K : PySem.W.Frag} {c : Act} {G H : Hp} {σ : St} : ∀ (l : List Nat) {s : S}, Rel K c G H σ s → Rel K c G H σ (kill l s)
  | [], _, r => r
  | i :: l, s, r => Rel.kill l (s := s.drop i) (r.forget i)
def forD (kl : List Nat) (tg : FG) (body : FO) : List D → S → O
  | [], s => .nx s
  | d :: ds, s => match tg d s with
    | none => .bad
    | some s1 => match body s1 with
      | .nx s2 => forD kl tg body ds (kill kl s2)
      | .ct s2 => forD kl tg body ds (kill kl s2)
      | .bk s2 => .nx (kill kl s2)
      | o => o
def sFor (kl : List Nat) (fi : FA) (tg : FG) (body : FO) : FO := fun s => (fi s).stm fun ds s => forD kl tg body ds s
/-- what is walked gives these data -/
def WkD (K : PySem.W.Frag) (G0 : Hp) (J : It) (ds : List D) : Prop :=
  Walk J ds.length (fun H => ∃ G, Same G0 G ∧ Same G H) fun i H v H' => ∀ (c : Act) (G : Hp) (σ : St) (s : S), Same G0 G → Rel K c G H σ s →
    ∃ G2 d, Same G G2 ∧ Rel K c G2 H' σ s ∧ ds[i]? = some d ∧ Dp K G2 v d
def tI (K : PySem.W.Frag) (ex : ExT) (W : WX) (fi : FA) : TI := fun σ H R => ∃ c G s, Rel K c G H σ s ∧ Post K ex W c G σ (fun ds G' H' _ => ∀ J, WkD K G' J ds → R J H') (fi s)
theorem forD_drop {kl : List Nat} {tg : FG} {body : FO} {ds : List D} {i : Nat} {d : D} (h : ds[i]? = some d) (s : S) : forD kl tg body (ds.drop i) s = forD kl tg body (d :: ds.drop (i + 1)) s := by
  obtain ⟨hi, e⟩ := List.getElem?_eq_some_iff.mp h
  rw [List.drop_eq_getElem_cons hi, e]
theorem kFor {t it : Expr} {body : List Stmt} {kl l : List Nat} {fi : FA} {tg : FG} {fb : FO} (hp : PassesOwn (model X.prog X.w) X.A X.env X.xe) (hc : X.calm = true) (hi : PI X t it (tI X.K ex W fi)) (hg : PG X t (tG X.K l tg)) (hb : PSs X body (tS X.K ex W fb))
    (hs : ∀ x, foldedSetIterable it X.env x = pure x := by intro _; rfl) : PS X (.For t it body [] pos) (tS X.K ex W (sFor kl fi tg fb)) :=
  PS.imp (ps_for hp hc hi hg hb hs) fun En σ H ⟨c, G, s, r, h⟩ => by
    refine ⟨c, G, s, r, PostO.fromR h fun ds s1 G1 H1 e1 r1 h1 J wk => ?_⟩
    refine for_it wk (fun i σ' H' => ∃ G' s', Same G1 G' ∧ Rel X.K c G' H' σ' s' ∧ PostO X.K ex W c G' En (forD kl tg fb (ds.drop i) s')) ⟨G1, s1, Same.refl _, r1, h1⟩ (fun i σ' H' hi ⟨G', s', e, r', _⟩ => ⟨G', e, r'.b.sub⟩) (fun i x σ' H' H2 hi ⟨G', s', e, r', h'⟩ y => ?_) (fun σ' H' ⟨G', s', e, r', h'⟩ => ?_)
    · obtain ⟨G2, d, e2, r2, hd, hx⟩ := y c G' σ' s' e r'
      rw [forD_drop hd] at h'
      unfold forD at h'
      cases z : tg d s' with
      | none =>
        simp only [z] at h'
        exact h'.elim
      | some s2 =>
        simp only [z] at h'
        refine ⟨c, G2, s', d, s2, r2, hx, z, fun σ3 _ r3 => ⟨c, G2, s2, r3, ?_⟩⟩
        cases q : fb s2 with
        | nx s3 =>
          simp only [q] at h'
          exact fun σ4 G4 H4 e4 r4 => ⟨G4, _, (e.trans e2).trans e4, r4.kill kl, h'.up (e2.trans e4)⟩
        | ct s3 =>
          simp only [q] at h'
          exact fun σ4 G4 H4 e4 r4 => ⟨G4, _, (e.trans e2).trans e4, r4.kill kl, h'.up (e2.trans e4)⟩
        | bk s3 =>
          simp only [q] at h'
          exact fun σ4 G4 H4 e4 r4 => h' σ4 G4 H4 (e2.trans e4) (r4.kill kl)
        | rt d s3 =>
          simp only [q] at h'
          exact h'.up e2
        | exc k as s3 =>
          simp only [q] at h'
          exact h'.up e2
        | bad =>
          simp only [q] at h'
          exact h'.elim
    · rw [List.drop_length] at h'
      exact h' σ' G' H' (Same.refl _) r'
/-- at most n turns -/
def whD (kl : List Nat) (c : FT) (body : FO) : Nat → S → O
  | 0, _ => .bad
  | n + 1, s => (c s).stm fun b s1 => if b = true then
      match body s1 with
      | .nx s2 => whD kl c body n (kill kl s2)
      | .ct s2 => whD kl c body n (kill kl s2)
      | .bk s2 => .nx (kill kl s2)
      | o => o
    else .nx s1
def sWhile (n : Nat) (kl : List Nat) (c : FT) (body : FO) : FO := fun s => whD kl c body n s
theorem kWhile {t : Expr} {body : List Stmt} {n : Nat} {kl : List Nat} {fc : FT} {fb : FO} (hp : PassesOwn (model X.prog X.w) X.A X.env X.xe) (hc : PT X t (tT X.K ex W fc)) (hb : PSs X body (tS X.K ex W fb)) : PS X (.While t body [] pos) (tS X.K ex W (sWhile n kl fc fb)) :=
  PS.imp (ps_while hp hc hb) fun En σ H ⟨c, G, s, r, h⟩ => by
    refine ⟨fun m σ' H' => ∃ G' s', Rel X.K c G' H' σ' s' ∧ Same G G' ∧ PostO X.K ex W c G' En (whD kl fc fb m s'), ⟨n, G, s, r, Same.refl _, h⟩, fun m σ' H' ⟨G', s', r', e', h'⟩ => ?_⟩
    cases m with
    | zero => exact h'.elim
    | succ m =>
      unfold whD at h'
      refine soT r' h' fun b s1 G1 H1 e1 r1 h1 => ?_
      cases b with
      | false => exact h1 σ' G1 H1 (Same.refl _) r1
      | true =>
        refine ⟨fun σ2 H2 => ∃ G2 s2, Rel X.K c G2 H2 σ2 s2 ∧ Same G G2 ∧ PostO X.K ex W c G2 En (whD kl fc fb m s2), fun σ2 H2 q => ⟨m, Nat.lt_succ_self m, q⟩, c, G1, s1, r1, ?_⟩
        simp only [if_true] at h1
        cases q : fb s1 with
        | nx s3 =>
          simp only [q] at h1
          exact fun σ4 G4 H4 e4 r4 => ⟨G4, _, r4.kill kl, (e'.trans e1).trans e4, h1.up e4⟩
        | ct s3 =>
          simp only [q] at h1
          exact fun σ4 G4 H4 e4 r4 => ⟨G4, _, r4.kill kl, (e'.trans e1).trans e4, h1.up e4⟩
        | bk s3 =>
          simp only [q] at h1
          exact fun σ4 G4 H4 e4 r4 => h1 σ4 G4 H4 e4 (r4.kill kl)
        | rt d s3 =>
          simp only [q] at h1
          exact h1
        | exc k as s3 =>
          simp only [q] at h1
          exact h1
        | bad =>
          simp only [q] at h1
          exact h1.elim
end
end PD
/-! PD5: what is walked; lists of one's own; comprehensions; subscripts; built-in calls. -/
namespace PD
open PySem PySem.Spec L2
open PyProof.Rows hiding St
variable [WI]

/-! ### what is walked -/
def iSeq (K : PySem.W.Frag) (tl : TE) : TI := fun σ H R => tl σ H fun x H1 => ∃ a, x = .ref a ∧ (((∃ xs, SqL K H1 a xs) ∧ R (Itl K a) H1) ∨ ((∃ xs, SqT K H1 a xs) ∧ R (Itt K a) H1))
section
variable {X : Cx} {ex : ExT} {W : WX} {tg : Expr}
theorem pi_seq {l : Expr} {tl : TE} (hl : PE X l tl) : PI X tg l (iSeq X.K tl) := by
  refine ⟨fun pins s σ H R I h => ?_⟩
  refine thn (hl.run pins s σ H _ I h) fun v s1 ⟨x, H1, I1, r1, q1⟩ => ?_
  obtain ⟨a, e, q⟩ := q1
  subst e
  cases r1
  have fin : ∀ b ∈ [s1.heap.objs.size], FpOk X pins H1 b := fun b hb => by
    have e : b = s1.heap.objs.size := by simpa using hb
    subst e
    exact I1.fpOk (Nat.le_refl _) (I1.hok.fresh (Nat.le_refl _))
  rcases q with ⟨⟨xs, hq⟩, q⟩ | ⟨⟨xs, hq⟩, q⟩
  · obtain ⟨its, rv, p, hz⟩ := I1.list hq
    refine wpAny_pyIter_list p.isList ?_
    exact ⟨s1.heap.objs.size, [s1.heap.objs.size], _, _, H1, rfl, I1.kept (t' := s1.toks) fun b o e => Heap.get?_push_of_some _ e, turn_list a _, ⟨_, Heap.get?_push_size _ rfl, rfl, rfl⟩, fin, q⟩
  · obtain ⟨its, rv, p, hz⟩ := I1.tuple hq
    refine wpAny_pyIter_tuple (show s1.heap.IsTuple a its.toArray from p) ?_
    exact ⟨s1.heap.objs.size, [s1.heap.objs.size], _, _, H1, rfl, I1.kept (t' := s1.toks) fun b o e => Heap.get?_push_of_some _ e, turn_tuple a _, ⟨_, Heap.get?_push_size _ rfl, rfl, rfl⟩, fin, q⟩
theorem wkList {K : PySem.W.Frag} {G : Hp} {a : Addr} {xs : List V} {ds : List D} (h : SqL K G a xs) (hd : DpAll K G xs ds) : WkD K G (Itl K a) ds := by
  have w : Walk (Itl K a) xs.length (fun H => SqL K H a xs) (YAt xs) := walk_list
  rw [hd.len] at w
  refine Walk.mono w (fun H ⟨G', e, e'⟩ => (e.trans e').seq h) fun i H x H' hi _ ⟨e, hx⟩ c G' σ s eG r => ?_
  subst e
  obtain ⟨d, h1, h2⟩ := hd.getV hx
  exact ⟨G', d, Same.refl _, r, h1, h2.up eG⟩
theorem wkTup {K : PySem.W.Frag} {G : Hp} {a : Addr} {xs : List V} {ds : List D} (h : SqT K G a xs) (hd : DpAll K G xs ds) : WkD K G (Itt K a) ds := by
  have w : Walk (Itt K a) xs.length (fun H => SqT K H a xs) (YAt xs) := walk_tup
  rw [hd.len] at w
  refine Walk.mono w (fun H ⟨G', e, e'⟩ => sqT_mono (e.trans e') h) fun i H x H' hi _ ⟨e, hx⟩ c G' σ s eG r => ?_
  subst e
  obtain ⟨d, h1, h2⟩ := hd.getV hx
  exact ⟨G', d, Same.refl _, r, h1, h2.up eG⟩
def items : D → Option (List D)
  | .list ds => some ds
  | .tuple ds => some ds
  | _ => none
/-- a list or a tuple, walked -/
def fIt (f : FE) : FA := fun s => (f s).bind fun d s => R.of (items d) s
theorem iIt {e : Expr} {f : FE} (h : PE X e (tE X.K ex W f)) : PI X tg e (tI X.K ex W (fIt f)) := PI.imp (pi_seq h) fun σ H Rr ⟨_, _, _, r, q⟩ =>
  inE r q fun d s1 G1 H1 v e1 r1 hv q1 => by
    cases d with
    | list ds =>
      cases hv with
      | lst h1 h2 => exact ⟨_, rfl, .inl ⟨⟨_, r1.b.sub.seq h1⟩, q1.val' r1 _ (wkList h1 h2)⟩⟩
    | tuple ds =>
      cases hv with
      | tup h1 h2 => exact ⟨_, rfl, .inr ⟨⟨_, sqT_mono r1.b.sub h1⟩, q1.val' r1 _ (wkTup h1 h2)⟩⟩
    | _ => exact q1.elim
def upTo (lo : Int) (n : Nat) : List D := (List.range n).map fun (i : Nat) => PyData.int (lo + i)
theorem wkRange {K : PySem.W.Frag} {G : Hp} {lo : Int} {n : Nat} : WkD K G (Itr lo n) (upTo lo n) := by
  have w : Walk (Itr lo n) n (fun _ => True) (YFn fun i => .int (lo + i)) := walk_range
  have hl : (upTo lo n).length = n := by simp [upTo]
  unfold WkD
  rw [hl]
  refine Walk.mono w (fun _ _ => trivial) fun i H x H' hi _ ⟨e, hx⟩ c G' σ s eG r => ?_
  subst e
  subst hx
  exact ⟨G', .int (lo + i), Same.refl _, r, by simp [upTo, hi], .int _⟩
def rng1 (d : D) : Option (List D) := match d with
  | .int j => if -(2 ^ 62) ≤ j ∧ j < 2 ^ 62 then some (upTo 0 j.toNat) else none
  | _ => none
def rng2 (d e : D) : Option (List D) := match d, e with
  | .int i, .int j => if -(2 ^ 62) ≤ i ∧ i < 2 ^ 62 ∧ -(2 ^ 62) ≤ j ∧ j < 2 ^ 62 then some (upTo i (j - i).toNat) else none
  | _, _ => none
def fR1 (f : FA) : FA := fun s => (f s).bind fun ds s => match ds with
  | [d] => R.of (rng1 d) s
  | _ => .bad
def fR2 (f : FA) : FA := fun s => (f s).bind fun ds s => match ds with
  | [d, e] => R.of (rng2 d e) s
  | _ => .bad
theorem iR1 {a : Expr} {f : FA} {p pos : Pos} (hm : X.mg "range" = none) (ha : PA X [a] (tA X.K ex W f)) (hg : Gl X "range" := by rfl) (hs : starEach [a] X.env = [(false, eval a X.env)] := by rfl) : PI X tg (.Call (.Name "range" p) [a] [] pos) (tI X.K ex W (fR1 f)) :=
  PI.imp (pi_range1 hg hm ha hs) fun σ H Rr ⟨_, _, _, r, q⟩ => inA r q fun ds s1 G1 H1 vs e1 r1 hv q1 => by
    match ds, hv, q1 with
    | [d], .cons h1 .nil, q1 =>
      cases d with
      | int j =>
        cases h1
        by_cases hj : -(2 ^ 62) ≤ j ∧ j < 2 ^ 62
        · have q1 : Post X.K ex W _ G1 σ _ (R.of (rng1 (.int j)) s1) := q1
          unfold rng1 at q1
          simp only [hj, and_self, if_true] at q1
          exact ⟨j, rfl, hj.1, hj.2, q1.val' r1 _ wkRange⟩
        · have q1 : Post X.K ex W _ G1 σ _ (R.of (rng1 (.int j)) s1) := q1
          unfold rng1 at q1
          simp only [hj, if_false] at q1
          exact q1.elim
      | _ => exact q1.elim
theorem iR2 {a b : Expr} {f : FA} {p pos : Pos} (hm : X.mg "range" = none) (ha : PA X [a, b] (tA X.K ex W f)) (hg : Gl X "range" := by rfl) (hs : starEach [a, b] X.env = [(false, eval a X.env), (false, eval b X.env)] := by rfl)
    (hs2 : starEach [b] X.env = [(false, eval b X.env)] := by rfl) : PI X tg (.Call (.Name "range" p) [a, b] [] pos) (tI X.K ex W (fR2 f)) :=
  PI.imp (pi_range2 hg hm ha hs hs2) fun σ H Rr ⟨_, _, _, r, q⟩ => inA r q fun ds s1 G1 H1 vs e1 r1 hv q1 => by
    match ds, hv, q1 with
    | [d, e], .cons h1 (.cons h2 .nil), q1 =>
      have q1 : Post X.K ex W _ G1 σ _ (R.of (rng2 d e) s1) := q1
      cases d with
      | int i =>
        cases e with
        | int j =>
          cases h1
          cases h2
          unfold rng2 at q1
          by_cases hj : -(2 ^ 62) ≤ i ∧ i < 2 ^ 62 ∧ -(2 ^ 62) ≤ j ∧ j < 2 ^ 62
          · simp only [hj, and_self, if_true] at q1
            exact ⟨i, j, rfl, hj, q1.val' r1 _ wkRange⟩
          · simp only [hj, if_false] at q1
            exact q1.elim
        | _ => exact q1.elim
      | _ => exact q1.elim

/-! ### a new list, nobody's yet -/
def Fresh (K : PySem.W.Frag) (c : Act) (G H : Hp) (σ : St) (s : S) (v : V) (ds : List D) : Prop :=
  EntOk K c G H v (.own ds) ∧ ∀ (j : Nat), ObAt s j → σ[j]? ≠ some (some v)
def tO (K : PySem.W.Frag) (ex : ExT) (W : WX) (f : FA) : TE := fun σ H Q => ∃ c G s, Rel K c G H σ s ∧ Post K ex W c G σ (fun ds G' H' s' => ∀ v, Fresh K c G' H' σ s' v ds → Q v H') (f s)
section
variable {K : PySem.W.Frag} {c : Act} {G H : Hp} {σ : St} {s : S}
theorem Rel.notOb {p : Addr} (r : Rel K c G H σ s) (hp : H p = none) (j : Nat) (hj : ObAt s j) : σ[j]? ≠ some (some (.ref p)) := fun z => by
  obtain ⟨e, q, b⟩ := hj
  obtain ⟨v, hv, he⟩ := r.slot j e q
  obtain ⟨o, p', ho, e', _, _, _, h4, _⟩ := he.ob b
  rw [hv] at z
  have z : v = .ref p := by simpa using z
  rw [e'] at z
  cases z
  rw [hp] at h4
  cases h4
theorem Rel.newOwn {p : Addr} {vs : List V} {ds : List D} (r : Rel K c G H σ s) (hp : H p = none) (hd : DpAll K G vs ds) :
    Rel K c G (upd H p (.lst vs)) σ s ∧ Fresh K c G (upd H p (.lst vs)) σ s (.ref p) ds := by
  obtain ⟨hG, hw, h0, g0⟩ := r.b.free hp
  refine ⟨r.allocOwn hp, ⟨p, .lst vs, rfl, hG, h0, hw, upd_same, vs, rfl, hd⟩, fun j hj z => r.notOb hp j hj z⟩
theorem Rel.freezeBeside {p : Addr} {ho : HO} (r : Rel K c G H σ s) (hs : ∀ (j : Nat), ObAt s j → σ[j]? ≠ some (some (.ref p))) (hG : G p = none) (h0 : c.H0 p = none) (hw : p ≠ c.wa) (hH : H p = some ho) (pl : plain ho = true) : Same G (upd G p ho) ∧ Rel K c (upd G p ho) H σ s := by
  have sm : Same G (upd G p ho) := same_upd hG
  have g0 : c.G0 p = none := r.b.g0.free hG
  refine ⟨sm, ⟨fun a u e => ?_, r.b.wl, ?_, sm.seq r.b.scr, r.b.g0.trans sm, r.b.h0, fun a u e mu n => ?_, fun q hq => let ⟨t, g, h⟩ := r.b.tb q hq; ⟨t, (upd_ne (TabS.ne t hH pl)).trans g, h⟩, fun a ps z => by
    by_cases h : a = p
    · rw [h, upd_same] at z
      cases z
      cases pl
    · rw [upd_ne h] at z
      exact r.b.ng a ps z⟩, r.len, fun j e q => ?_, r.sep⟩
  · by_cases ha : a = p
    · subst ha
      rw [upd_same] at e
      cases e
      exact hH
    · rw [upd_ne ha] at e
      exact r.b.sub a u e
  · rw [upd_ne (Ne.symm hw)]
    exact r.b.wf
  · rw [upd_ne (ne_of_none e h0)]
    exact r.b.n0 a u e mu n
  · obtain ⟨u, hu, he⟩ := r.slot j e q
    refine ⟨u, hu, ?_⟩
    have gen : ∀ o, isOb e = true → Ob K c G H u o → Ob K c (upd G p ho) H u o := fun o b ⟨p', vs', e', k1, k2, k3, k4, k5⟩ => by
      have hp : p' ≠ p := fun z => by
        rw [e', z] at hu
        exact hs j ⟨e, q, b⟩ hu
      refine ⟨p', vs', e', ?_, k2, k3, k4, k5.up sm⟩
      rw [upd_ne hp]
      exact k1
    cases e with
    | val d => exact Dp.up he sm
    | hdl => exact he
    | tab _ _ => exact he
    | own _ => exact gen _ rfl he
    | dic _ => exact gen _ rfl he
    | ins _ _ _ => exact ⟨gen _ rfl he.1, he.2⟩
    | kys _ => obtain ⟨p', e', he⟩ := he; exact ⟨p', e', gen _ rfl he⟩
/-- frozen at once -/
theorem Rel.freezeNew {v : V} {ds : List D} (r : Rel K c G H σ s) (h : Fresh K c G H σ s v ds) : ∃ G', Same G G' ∧ Rel K c G' H σ s ∧ Dp K G' v (.list ds) := by
  obtain ⟨⟨p, ho, rfl, hG, h0, hw, hH, ⟨vs, rfl, hd⟩⟩, hs⟩ := h
  obtain ⟨sm, r1⟩ := r.freezeBeside hs hG h0 hw hH rfl
  exact ⟨_, sm, r1, .lst (SqL.of upd_same) (hd.up sm)⟩
theorem inO {β : Type} {f : FA} {g : List D → S → R β} {M : β → Hp → Hp → S → Prop} {N : V → Hp → Prop} (r : Rel K c G H σ s) (h : Post K ex W c G σ M ((f s).bind g))
    (next : ∀ ds s' G' H' v, Same G G' → Rel K c G' H' σ s' → Fresh K c G' H' σ s' v ds → Post K ex W c G' σ M (g ds s') → N v H') : tO K ex W f σ H N :=
  ⟨c, G, s, r, Post.seq h fun a s' G' H' e r' q v hv => next a s' G' H' v e r' hv q⟩
theorem soO {En : Ends} {f : FA} {g : List D → S → O} {N : V → Hp → Prop} (r : Rel K c G H σ s) (h : PostO K ex W c G En ((f s).stm g))
    (next : ∀ ds s' G' H' v, Same G G' → Rel K c G' H' σ s' → Fresh K c G' H' σ s' v ds → PostO K ex W c G' En (g ds s') → N v H') : tO K ex W f σ H N :=
  ⟨c, G, s, r, h.fromR fun a s' G' H' e r' q v hv => next a s' G' H' v e r' hv q⟩
end
/-- a new list as data -/
def fFz (f : FA) : FE := fun s => (f s).bind fun ds s => .ok (.list ds) s
theorem eFz {e : Expr} {f : FA} (h : PE X e (tO X.K ex W f)) : PE X e (tE X.K ex W (fFz f)) := PE.imp h fun σ H Q ⟨_, _, _, r, q⟩ =>
  inO r q fun ds s1 G1 H1 v e1 r1 hv q1 => by
    obtain ⟨G2, e2, r2, hd⟩ := r1.freezeNew hv
    exact (q1.up e2).val r2 hd
/-- .. walked -/
def fLim (f : FA) : FA := fun s => (f s).bind fun ds s => if ds.length ≤ sizeLine then .ok ds s else .bad
theorem oLst {es : List Expr} {f : FA} {pos : Pos} (h : PA X es (tA X.K ex W f)) : PE X (.List es pos) (tO X.K ex W (fLim f)) := PE.imp (pe_lst h) fun _ _ _ ⟨_, _, _, r, h⟩ =>
  inA r h fun ds s1 G1 H1 vs e1 r1 hvs h1 => by
    by_cases hl : ds.length ≤ sizeLine
    · rw [if_pos hl] at h1
      refine ⟨by rw [hvs.len]; exact hl, fun p hp => ?_⟩
      obtain ⟨r2, hv⟩ := r1.newOwn hp hvs
      exact h1 G1 _ (Same.refl _) r2 _ hv
    · rw [if_neg hl] at h1
      exact h1.elim
/-- name = a new list -/
def sSetO (i : Nat) (f : FA) : FO := fun s => (f s).stm fun ds s => .nx (s.put i (.own ds))
theorem Fresh.put {K : PySem.W.Frag} {c : Act} {G H : Hp} {σ : St} {s : S} {v : V} {ds : List D} (h : Fresh K c G H σ s v ds) (r : Rel K c G H σ s) (i : Nat) : Rel K c G H (σ.set i (some v)) (s.put i (.own ds)) :=
  r.put i h.1 fun _ j _ hj => h.2 j hj
theorem kSetO {i : Nat} {x : Str} {e : Expr} {f : FA} {pos pos' : Pos} (hN : X.N.Nodup) (he : PE X e (tO X.K ex W f)) (hi : X.N[i]? = some x := by rfl) (hx : Loc X.env.scope x := by first | exact Or.inl rfl | exact Or.inr rfl)
    (hs : swapsWith e (some (.Name x pos')) pos.line X.env = pure false := by rfl) (hf : X.fn x = true ∨ X.env.scope.names.lookup x = some .local := by first | exact .inl rfl | exact .inr rfl) :
    PS X (.Assign [.Name x pos'] e pos) (tS X.K ex W (sSetO i f)) :=
  PS.imp (ps_set hN hi hx he hs hf) fun En σ H ⟨c, _, _, r, h⟩ => soO r h fun ds s1 G1 H1 v e1 r1 hv h1 => h1 _ G1 H1 (Same.refl _) (hv.put r1 i)

/-! ### a slot's list read, changed -/
def look (s : S) (i : Nat) : Option D :=
  match s.ρ[i]? with
  | some (some (.val d)) => some d
  | some (some (.own ds)) => some (.list ds)
  | some (some (.dic es)) => some (dicD es)
  | _ => none
theorem Rel.look {K : PySem.W.Frag} {c : Act} {G H : Hp} {σ : St} {s : S} {i : Nat} {d : D} (r : Rel K c G H σ s) (h : look s i = some d) : ∃ v, σ[i]? = some (some v) ∧ Dp K H v d := by
  unfold PD.look at h
  split at h
  · rename_i d' hd
    obtain ⟨v, hv, he⟩ := r.slot i _ hd
    cases h
    exact ⟨v, hv, Dp.up he r.b.sub⟩
  · rename_i ds hd
    obtain ⟨v, hv, p, ho, rfl, _, _, _, h4, ⟨vs, rfl, h5⟩⟩ := r.slot i _ hd
    cases h
    exact ⟨_, hv, .lst (SqL.of h4) (h5.up r.b.sub)⟩
  · rename_i ds hd
    obtain ⟨v, hv, p, ho, rfl, _, _, _, h4, ⟨vs, rfl, h5⟩⟩ := r.slot i _ hd
    cases h
    exact ⟨_, hv, .dct h4 (h5.up r.b.sub).kvs⟩
  · cases h
def lenD : D → Option Int
  | .list ds => some ds.length
  | .tuple ds => some ds.length
  | .str z => if z.length ≤ sizeLine then some z.length else none
  | _ => none
theorem lenV {K : PySem.W.Frag} {H : Hp} {v : V} {d : D} {n : Int} (hv : Dp K H v d) (h : lenD d = some n) : ∃ m : Nat, LenV K v H m ∧ n = m := by
  cases d with
  | list ds =>
    cases hv with
    | lst h1 h2 =>
      cases h
      exact ⟨_, .inl ⟨_, h1, h2.len.symm⟩, rfl⟩
  | tuple ds =>
    cases hv with
    | tup h1 h2 =>
      cases h
      exact ⟨_, .inr ⟨_, h1, h2.len.symm⟩, rfl⟩
  | str z =>
    cases hv
    by_cases hz : z.length ≤ sizeLine
    · have h : (if z.length ≤ sizeLine then some (z.length : Int) else none) = some n := h
      rw [if_pos hz] at h
      cases h
      exact ⟨_, ⟨hz, rfl⟩, rfl⟩
    · have h : (if z.length ≤ sizeLine then some (z.length : Int) else none) = some n := h
      rw [if_neg hz] at h
      cases h
  | _ => cases h
/-- len(name) -/
def fLenS (i : Nat) : FE := fun s => R.of ((look s i).bind fun d => (lenD d).map PyData.int) s
/-- len(e) -/
def fLen (f : FE) : FE := fun s => (f s).bind fun d s => R.of ((lenD d).map PyData.int) s
theorem eLenS (i : Nat) {x : Str} {p p' pos : Pos} (hm : X.mg "len" = none) (hg : Gl X "len" := by rfl) (hN : X.N[i]? = some x := by rfl) (hv : Vis X.env.scope x := by first | exact Or.inl rfl | exact Or.inr (Or.inl rfl) | exact Or.inr (Or.inr rfl))
    (hd : (x == ("__debug__" : Str)) = false := by decide) (hcd : (x == ("__classdict__" : Str)) = false := by decide) (he : starEach [.Name x p'] X.env = (false, eval (.Name x p') X.env) :: starEach [] X.env := by rfl) (hpl : (backTo pos (starEach [] X.env)).any (·.1) = false := by rfl) :
    PE X (.Call (.Name "len" p) [.Name x p'] [] pos) (tE X.K ex W (fLenS i)) :=
  PE.imp (pe_callB call_len hg hm PySem.boot_len (pa_cons (pe_var hN hv hd hcd) pa_nil he) (he := he) (hpl := hpl)) fun σ H Q ⟨_, _, s, r, h⟩ => by
    have h : Post X.K ex W _ _ σ _ (R.of ((look s i).bind fun d => (lenD d).map PyData.int) s) := h
    cases z : look s i with
    | none =>
      rw [z] at h
      exact h.elim
    | some d =>
      rw [z] at h
      cases z2 : lenD d with
      | none =>
        simp only [Option.bind_some, z2] at h
        exact h.elim
      | some n =>
        simp only [Option.bind_some, z2] at h
        obtain ⟨v, hv, hd⟩ := r.look z
        obtain ⟨m, hm, rfl⟩ := lenV hd z2
        exact ⟨v, hv, v, m, rfl, hm, h.val r (.int _)⟩
theorem eLen {e : Expr} {f : FE} {p pos : Pos} (hm : X.mg "len" = none) (he : PE X e (tE X.K ex W f)) (hg : Gl X "len" := by rfl) (hs : starEach [e] X.env = (false, eval e X.env) :: starEach [] X.env := by rfl) (hpl : (backTo pos (starEach [] X.env)).any (·.1) = false := by rfl) :
    PE X (.Call (.Name "len" p) [e] [] pos) (tE X.K ex W (fLen f)) :=
  PE.imp (pe_callB call_len hg hm PySem.boot_len (pa_cons he pa_nil hs) (he := hs) (hpl := hpl)) fun σ H Q ⟨_, _, _, r, q⟩ => inE r q fun d s1 G1 H1 v e1 r1 hv q1 => by
    cases z2 : lenD d with
    | none =>
      rw [z2] at q1
      exact q1.elim
    | some n =>
      rw [z2] at q1
      obtain ⟨m, hm, rfl⟩ := lenV (hv.up r1.b.sub) z2
      exact ⟨v, m, rfl, hm, q1.val r1 (.int _)⟩
/-- e[i] -/
def dIx (a b : D) : Option D := match a, b with
  | .list xs, .int i => atI xs i
  | .tuple xs, .int i => atI xs i
  | .str z, .int i => if z.length ≤ sizeLine then (atI z.cps.toList i).map fun c => .str ⟨#[c]⟩ else none
  | _, _ => none
theorem atI_map {α β : Type} {xs : List α} {ys : List β} (hl : xs.length = ys.length) {i : Int} {y : β} (h : atI ys i = some y) : ∃ j, ixN xs.length i = some j ∧ ys[j]? = some y := by
  unfold atI at h
  rw [← hl] at h
  cases z : ixN xs.length i with
  | none => rw [z] at h; cases h
  | some j => rw [z] at h; exact ⟨j, rfl, h⟩
theorem od_ix {K : PySem.W.Frag} {c : Act} {G H H2 : Hp} {σ : St} {s : S} {x y : V} {a b d : D} {Q : VK} (r : Rel K c G H σ s) (hx : Dp K H x a) (hG : ∀ ds, (a = .list ds ∨ a = .tuple ds) → ∃ vs, DpAll K G vs ds ∧ ∀ p, x = .ref p → (a = .list ds → SqL K H p vs) ∧ (a = .tuple ds → SqT K H p vs))
    (hy : Dp K G y b) (e : dIx a b = some d) (q : ∀ v, Dp K G v d → Q v H) : rIx K x y H Q := by
  unfold dIx at e
  split at e
  · rename_i xs i
    cases hy
    obtain ⟨vs, hd, hp⟩ := hG xs (.inl rfl)
    cases hx with
    | lst h1 h2 =>
      rename_i p ws
      obtain ⟨j, hj, hj2⟩ := atI_map hd.len e
      obtain ⟨v, hv, hvd⟩ := hd.get hj2
      exact .inl ⟨p, vs, i, v, rfl, rfl, (hp p rfl).1 rfl, by unfold atI; rw [hj]; exact hv, q v hvd⟩
  · rename_i xs i
    cases hy
    obtain ⟨vs, hd, hp⟩ := hG xs (.inr rfl)
    cases hx with
    | tup h1 h2 =>
      rename_i p ws
      obtain ⟨j, hj, hj2⟩ := atI_map hd.len e
      obtain ⟨v, hv, hvd⟩ := hd.get hj2
      exact .inr (.inl ⟨p, vs, i, v, rfl, rfl, (hp p rfl).2 rfl, by unfold atI; rw [hj]; exact hv, q v hvd⟩)
  · rename_i z i
    cases hy
    cases hx
    by_cases hz : z.length ≤ sizeLine
    · rw [if_pos hz] at e
      cases w : atI z.cps.toList i with
      | none => rw [w] at e; cases e
      | some cc =>
        rw [w] at e
        cases e
        exact .inr (.inr ⟨z, i, cc, rfl, rfl, hz, w, q _ (.str _)⟩)
    · rw [if_neg hz] at e
      cases e
  · cases e
def fIx (f g : FE) : FE := fBin dIx f g
/-- name[i] -/
def fIxS (i : Nat) (g : FE) : FE := fun s => match look s i with
  | none => .bad
  | some _ => (g s).bind fun b s => R.of ((look s i).bind fun a => dIx a b) s
theorem eIx {a b : Expr} {f g : FE} {pos : Pos} (hf : PE X a (tE X.K ex W f)) (hg : PE X b (tE X.K ex W g)) (hs : PlainIx b := by exact fun _ _ => rfl) : PE X (.Subscript a b pos) (tE X.K ex W (fIx f g)) :=
  PE.imp (pe_ix ix_seq hf hg hs) fun σ H Q ⟨_, _, _, r, h⟩ => inE r h fun d s1 G1 H1 v e1 r1 hv h1 => inE r1 h1 fun d' s2 G2 H2 v' e2 r2 hv' h2 => by
    cases z : dIx d d' with
    | none =>
      rw [z] at h2
      exact h2.elim
    | some y =>
      rw [z] at h2
      refine od_ix (H2 := H2) r2 ((hv.up e2).up r2.b.sub) (fun ds hd => ?_) hv' z fun w hw => h2.val r2 hw
      rcases hd with rfl | rfl
      · cases hv.up e2 with
        | lst q1 q2 => exact ⟨_, q2, fun p e => ⟨fun _ => (by cases e; exact r2.b.sub.seq q1), fun z => nomatch z⟩⟩
      · cases hv.up e2 with
        | tup q1 q2 => exact ⟨_, q2, fun p e => ⟨(fun z => nomatch z), fun _ => (by cases e; exact sqT_mono r2.b.sub q1)⟩⟩
theorem Rel.look2 {K : PySem.W.Frag} {c : Act} {G H : Hp} {σ : St} {s : S} {i : Nat} {d : D} (r : Rel K c G H σ s) (h : PD.look s i = some d) : ∃ v, σ[i]? = some (some v) ∧ Dp K H v d ∧
    ∀ ds, (d = .list ds ∨ d = .tuple ds) → ∃ vs, DpAll K G vs ds ∧ ∀ p, v = .ref p → (d = .list ds → SqL K H p vs) ∧ (d = .tuple ds → SqT K H p vs) := by
  unfold PD.look at h
  split at h
  · rename_i d' hd
    obtain ⟨v, hv, he⟩ := r.slot i _ hd
    cases h
    refine ⟨v, hv, Dp.up he r.b.sub, fun ds z => ?_⟩
    have he : Dp K G v d := he
    rcases z with rfl | rfl
    · cases he with
      | lst q1 q2 => exact ⟨_, q2, fun p e => ⟨fun _ => (by cases e; exact r.b.sub.seq q1), fun z => nomatch z⟩⟩
    · cases he with
      | tup q1 q2 => exact ⟨_, q2, fun p e => ⟨(fun z => nomatch z), fun _ => (by cases e; exact sqT_mono r.b.sub q1)⟩⟩
  · rename_i ds' hd
    obtain ⟨v, hv, p, ho, rfl, _, _, _, h4, ⟨vs, rfl, h5⟩⟩ := r.slot i _ hd
    cases h
    refine ⟨_, hv, .lst (SqL.of h4) (h5.up r.b.sub), fun ds z => ?_⟩
    rcases z with z | z
    · cases z
      exact ⟨vs, h5, fun p' e => ⟨fun _ => (by cases e; exact SqL.of h4), fun z => nomatch z⟩⟩
    · cases z
  · rename_i ds' hd
    obtain ⟨v, hv, p, ho, rfl, _, _, _, h4, ⟨vs, rfl, h5⟩⟩ := r.slot i _ hd
    cases h
    refine ⟨_, hv, .dct h4 (h5.up r.b.sub).kvs, fun ds z => ?_⟩
    rcases z with z | z <;> cases z
  · cases h
theorem eIxS (i : Nat) {x : Str} {b : Expr} {g : FE} {pos p : Pos} (hg : PE X b (tE X.K ex W g)) (hN : X.N[i]? = some x := by rfl) (hv : Vis X.env.scope x := by first | exact Or.inl rfl | exact Or.inr (Or.inl rfl) | exact Or.inr (Or.inr rfl))
    (hd : (x == ("__debug__" : Str)) = false := by decide) (hcd : (x == ("__classdict__" : Str)) = false := by decide) (hs : PlainIx b := by exact fun _ _ => rfl) : PE X (.Subscript (.Name x p) b pos) (tE X.K ex W (fIxS i g)) := by
  refine PE.imp (PE.imp (pe_ix ix_seq (pe_var (i := i) hN hv hd hcd) hg hs) fun σ H Q (h : ∃ v, σ[i]? = some (some v) ∧ tE X.K ex W g σ H fun y H2 => rIx X.K v y H2 Q) => h) fun σ H Q ⟨c, G, s, r, h⟩ => ?_
  have h : Post X.K ex W c G σ (fun d G' H' _ => ∀ v, Dp X.K G' v d → Q v H') (match look s i with
    | none => .bad
    | some _ => (g s).bind fun b s => R.of ((look s i).bind fun a => dIx a b) s) := h
  cases z0 : look s i with
  | none =>
    rw [z0] at h
    exact h.elim
  | some a0 =>
    rw [z0] at h
    obtain ⟨v, hv, _⟩ := r.look z0
    refine ⟨v, hv, inE r h fun d' s2 G2 H2 v' e2 r2 hv' h2 => ?_⟩
    cases z : look s2 i with
    | none =>
      rw [z] at h2
      exact h2.elim
    | some a =>
      rw [z] at h2
      simp only [Option.bind_some] at h2
      cases z2 : dIx a d' with
      | none =>
        rw [z2] at h2
        exact h2.elim
      | some y =>
        rw [z2] at h2
        obtain ⟨u, hu, hd, hG⟩ := r2.look2 z
        rw [hv] at hu
        have e : v = u := by simpa using hu
        subst e
        exact od_ix (H2 := H2) r2 hd hG hv' z2 fun w hw => h2.val r2 hw
end
end PD
/-! PDg: defs whose promise is for calls behind which no repr is under way (A.guards = some []): str of a tuple is its text there. -/
namespace PD
open PySem PySem.Spec L2
open PyProof.Rows hiding St
variable [WI]
/-- room for a call of level k, and nothing guarded is under way -/
structure RoomG (k : Nat) (A : Around) : Prop where
  rm : Room k A
  gd : A.guards = some []
theorem RoomG.mono {j k : Nat} {A : Around} (r : RoomG k A) (h : j ≤ k) : RoomG j A := ⟨r.rm.mono h, r.gd⟩
theorem RoomG.deeper {k : Nat} {A : Around} (r : RoomG (k + 1) A) (env : Env) : RoomG k (A.deeper env) := ⟨r.rm.deeper env, r.gd⟩
/-- the promise of a def, where nothing guarded is under way -/
structure FnG (P : Program) (w : World) (K : PySem.W.Frag) (mg : Str → Option Value) (base : Heap) (CX : CXT) (k : Nat) (f : Addr) (fd : FuncData) (ps : List Str) (sp : Sp) : Prop where
  num : ∀ vs H Q E, sp vs H Q E → vs.length = ps.length
  go : ∀ (A : Around) (outer : List Env) (s : Shared) (H : Hp) (args : Args) (us : List Value) (vs : List V) (Q : VK) (E : XK),
    RoomG k A → Env0 P w K mg base A outer s H → BindsTo s fd args (ps.zip us) → Vals vs us → sp vs H Q E → codeAny (model P w) A (.call (.ref f) args) (CR CX outer P w H s Q E) s
section
variable {P : Program} {w : World} {K : PySem.W.Frag} {mg : Str → Option Value} {base : Heap} {CX : CXT} {j k : Nat} {f : Addr} {fd : FuncData} {ps : List Str} {sp : Sp}
theorem FnG.mono (F : FnG P w K mg base CX j f fd ps sp) (h : j ≤ k) : FnG P w K mg base CX k f fd ps sp :=
  ⟨F.num, fun A outer s H args us vs Q E rg e0 b v q => F.go A outer s H args us vs Q E (rg.mono h) e0 b v q⟩
theorem fnG_of (F : FnOk P w K mg base CX k f fd ps sp) : FnG P w K mg base CX k f fd ps sp :=
  ⟨F.len, fun A outer s H args us vs Q E rg e0 b v q => F.run A outer s H args us vs Q E rg.rm e0 b v q⟩
end
/-- what a call's end must be -/
theorem end_of {X : Cx} {CX : CXT} {pins : List (Addr × Obj)} {σ : St} {H : Hp} {s : Shared} {Q : VK} {E : XK} (I : Inv X pins σ H s) (hx : PassesAt CX X σ E) {r : Result} {s' : Shared} (h : CR CX X.stack X.prog X.w H s Q E r s') :
    match (generalizing := false) r with | .ok (.ret u) => EP X pins σ Q u s' | .ok _ => False | .error e => X.xe e s' := by
  match r, h with
  | .error e, h => exact hx pins H s e s' I h
  | .ok (.ret u), h => exact I.after h
  | .ok .next, h => exact h
  | .ok .brk, h => exact h
  | .ok .cont, h => exact h
section
variable {X : Cx} {CX : CXT} {k : Nat} {f C : Addr} {fd : FuncData} {ps : List Str} {sp : Sp} {x m : Str} {p pos apos : Pos} {e o : Expr} {es : List Expr} {ta : TE} {t : TA}
/-- a guarded callee runs -/
theorem run_fnG {pins : List (Addr × Obj)} {σ : St} {H : Hp} {s : Shared} {Q : VK} {us : List Value} {vs : List V} {E : XK} (F : FnG X.prog X.w X.K X.mg X.base CX k f fd ps sp) (rg : RoomG k X.A) (hb : L2.Binds X.K fd ps []) (hx : PassesAt CX X σ E)
    (I : Inv X pins σ H s) (rv : Vals vs us) (q : sp vs H Q E) : wpAny (model X.prog X.w) X.A (call (.ref f) us) (EP X pins σ Q) X.xe s := by
  have nl : (us ++ []).length = ps.length := by rw [List.append_nil, ← rv.length]; exact F.num _ _ _ _ q
  have bd : BindsTo s fd ⟨us, []⟩ (ps.zip us) := by
    have z := hb s us I.kIn nl
    rwa [List.append_nil] at z
  have run := F.go X.A X.stack s H ⟨us, []⟩ us vs Q E rg I.env0 bd rv q
  refine wpAny_call (codeAny_mono run fun r s2 fin => ?_)
  have z := end_of I hx fin
  match r, z with
  | .error _, z => exact z
  | .ok (.ret _), z => exact z
  | .ok .next, z => exact z.elim
  | .ok .brk, z => exact z.elim
  | .ok .cont, z => exact z.elim
theorem pe_callG {E : St → XK} (F : FnG X.prog X.w X.K X.mg X.base CX k f fd ps sp) (rg : RoomG k X.A) (hg : Gl X x) (hm : X.mg x = some (.ref f)) (hk : PySem.W.keepIn X.K (.ref f) = true) (hb : L2.Binds X.K fd ps []) (hx : ∀ σ, PassesAt CX X σ (E σ)) (ha : PA X (e :: es) t)
    (hdb : (x == ("__debug__" : Str)) = false := by decide) (he : starEach (e :: es) X.env = (false, eval e X.env) :: starEach es X.env := by rfl) (hpl : (backTo pos (starEach es X.env)).any (·.1) = false := by rfl) :
    PE X (.Call (.Name x p) (e :: es) [] pos) (tCallS sp E t) :=
  ⟨fun pins s σ H Q I q => wpAny_Call_Name_kw (ld_glob I hg hm
    (PySem.W.callWith_K (h₀ := X.base) I.ok.mod.kin hk (thn (ha.run pos pins s σ H _ I q) fun us s2 ⟨vs, H2, I2, rv, q2⟩ => ⟨I2.kIn, run_fnG F rg hb (hx σ) I2 rv q2⟩) he hpl) hdb)⟩
theorem pe_methG {E : XK} {pl : Sem Bool} (he : PE X o ta) (c : Cls X.K C) (hm : Meth X.K C m f) (F : FnG X.prog X.w X.K X.mg X.base CX k f fd ps sp) (rg : RoomG k X.A) (hb : L2.Binds X.K fd ps []) (hx : ∀ σ, PassesAt CX X σ E) (ha : PA X (e :: es) t)
    (hst : starEach (e :: es) X.env = (false, eval e X.env) :: starEach es X.env) (hpl : (backTo pos (starEach es X.env)).any (·.1) = false)
    (ht : eval (.Call (.Attribute o m apos) (e :: es) [] pos) X.env = (do
      let ov ← eval o X.env
      standAt apos.atName
      let (f, first) ← holding [ov] (getMethod ov m pl)
      callWith pos f first (backTo pos (starEach (e :: es) X.env)) (backToKw pos (keywordEach [] X.env)))) :
    PE X (.Call (.Attribute o m apos) (e :: es) [] pos) (tMeth C m sp [] E ta t) :=
  ⟨fun pins s σ H Q I q => PySem.W.methodCall_KW (pl := pl) (thn (he.run pins s σ H _ I q) fun u s1 ⟨y, H1, I1, ry, a, dx, fs, ey, ea, nf, q1⟩ => by
    subst ey
    obtain rfl : u = Value.ref a := ry
    exact getmeth_ok I1 ea c hm nf (PySem.W.callWith_K (first := [.ref a]) (h₀ := X.base) I.ok.mod.kin hm.kp
      (thn (ha.run pos pins s1 σ H1 _ I1 q1) fun us s2 ⟨vs, H2, I2, rv, q2⟩ => ⟨I2.kIn, run_fnG (us := .ref a :: us) (vs := .ref a :: vs) F rg hb (hx σ) I2 (.cons rfl rv) (by have z : sp (.ref a :: (vs ++ [])) H2 Q E := q2; rwa [List.append_nil] at z)⟩) hst hpl)) ht⟩
theorem pe_methG0 {E : XK} {pl : Sem Bool} (he : PE X o ta) (c : Cls X.K C) (hm : Meth X.K C m f) (F : FnG X.prog X.w X.K X.mg X.base CX k f fd ps sp) (rg : RoomG k X.A) (hb : L2.Binds X.K fd ps []) (hx : ∀ σ, PassesAt CX X σ E)
    (ht : eval (.Call (.Attribute o m apos) [] [] pos) X.env = (do
      let ov ← eval o X.env
      standAt apos.atName
      let (f, first) ← holding [ov] (getMethod ov m pl)
      callWith pos f first (backTo pos (starEach [] X.env)) (backToKw pos (keywordEach [] X.env)))) :
    PE X (.Call (.Attribute o m apos) [] [] pos) (tMeth C m sp [] E ta tNil) :=
  ⟨fun pins s σ H Q I q => PySem.W.methodCall_KW (pl := pl) (thn (he.run pins s σ H _ I q) fun u s1 ⟨y, H1, I1, ry, a, dx, fs, ey, ea, nf, q1⟩ => by
    subst ey
    obtain rfl : u = Value.ref a := ry
    exact getmeth_ok I1 ea c hm nf (PySem.W.callWith_K0 (first := [.ref a]) I1.kIn hm.kp (run_fnG (us := [.ref a]) (vs := [.ref a]) F rg hb (hx σ) I1 (.cons rfl .nil) q1))) ht⟩
end
section
variable {P : Program} {w : World} {K : PySem.W.Frag} {mg : Str → Option Value} {base : Heap}
/-- a def keeps its promise, by its body -/
theorem okG {x qual : Str} {st : Stmt} {f : Addr} {fd : FuncData} {N ps : List Str} {k : Nat} {sp : Sp} (F : Fun K x qual st f fd) (S : FnScope N ps (defScope st)) (num : ∀ vs H Q E, sp vs H Q E → vs.length = ps.length)
    (hbody : ∀ (cdv : Value) (A : Around) (outer : List Env) (s : Shared) (H : Hp) (vs : List V) (Q : VK) (E : XK), RoomG k (A.deeper (envOfC qual (defScope st) s.heap.objs.size f cdv)) → sp vs H Q E →
      ∃ t, PSs (cxOf (L2.CX P w) P w K mg base N qual (defScope st) f cdv A outer s H E) (defBody st) t ∧ t { nx := fun _ H' => Q .non H', rt := Q } (start N vs) H) : FnG P w K mg base (L2.CX P w) (k + 1) f fd ps sp := by
  obtain ⟨oc, od, kV, doc, pm, an, cdv, ct, osl, rfl, lk, hcd⟩ := F.ex
  refine ⟨num, fun A outer s H args us vs Q E rg e0 hb rv q => ?_⟩
  have old : ∀ b o, base.get? b = some o → s.heap.get? b = some o := fun b o e => (e0.bs b o e).1
  have KX : K.In s.heap := e0.mod.kin.keeps old
  have lim : s.heap.NoLimit := e0.mod.nolimit.keeps old
  have kinds : ∀ y ∈ ps.zip us, (defScope st).names.lookup y.1 = some .local ∨ ((defScope st).names.lookup y.1 = some .cell ∧ ((cellsFrom (s.heap.objs.size + 1) (defScope st).names []).lookup y.1).isSome = true) := by
    rintro ⟨n, v⟩ hy
    refine (S.par n (List.of_mem_zip hy).1).imp id fun z => ⟨z, PySem.W.cellsFrom_some _ _ _ (.inl z)⟩
  refine codeAny_call_function rg.rm.depth (KX _ _ lk) rfl S.co S.gen rfl (PySem.W.codeRec_of KX hcd) (hb _ _ _ _ (wpAny_newFunctionEnv_cells S.kind kinds fun env he s1 ic => ?_))
  subst he
  obtain ⟨t, ht, hq⟩ := hbody cdv A outer s H vs Q E (rg.deeper _) q
  have J : Inv (cxOf (L2.CX P w) P w K mg base N qual (defScope st) f cdv A outer s H E) [] (start N vs) H s1 := inv_start S rg.rm.hd e0 (num _ _ _ _ q) rv ic
  refine ⟨lim.keeps ic.toInCall.keep, codeAny_func (wpAny_mono (ht.run [] s1 (start N vs) H _ J hq) (fun fl s2 hs => ?_) fun _ _ hs => hs)⟩
  match fl, hs with
  | .ret u, ⟨v, σ2, H2, J2, r2, q2⟩ => exact ⟨v, H2, J2.os, J2.bare, J2.base, J2.hok, r2, q2⟩
  | .next, ⟨σ2, H2, J2, q2⟩ => exact ⟨.non, H2, J2.os, J2.bare, J2.base, J2.hok, rfl, q2⟩
  | .brk, ⟨_, _, _, q2⟩ => exact q2.elim
  | .cont, ⟨_, _, _, q2⟩ => exact q2.elim
omit [WI] in
/-- the top: the law's def is called behind no repr -/
theorem topG {mb : Str → Option Value} {CX : CXT} {k : Nat} {fa a : Addr} {fd : FuncData} {x : Str} {sp : Sp} {s1 : Shared} {us : List Value} {ns : List Int} (KX : K.In s1.heap) (hns : s1.heap.Ns mainGlobals mg) (hb : s1.heap.Ns builtinsNs mb)
    (hbb : ∀ x : Str, x ≠ "__name__" → mb x = bootBuiltins x) (lim : s1.heap.NoLimit) (gens : s1.gens = #[]) (ha : s1.heap.get? a = some { cls := .type "list", data := .seq us.toArray }) (hi : IntsAre us ns) (hl : ns.length ≤ sizeLine) (hr : Room k callerA)
    (F : ∀ base : Heap, K.In base → base.Ns mainGlobals mg → FnG P w K mg base CX k fa fd [x] sp) (bd : ∀ (s : Shared) (u : Value), BindsTo s fd ⟨[u], []⟩ [(x, u)])
    (hsp : ∀ H : Hp, Only H → SqL K H a (ns.map V.int) → sp [.ref a] H (fun v _ => v = .bl true) fun _ _ _ => False) (hCX : ∀ H e s', CX [] H s1 (fun _ _ _ => False) e s' → False) :
    codeAny (model P w) callerA (.call (.ref fa) ⟨[.ref a], []⟩) (fun r s' => r = .ok (.ret (.bool true)) ∧ OldK s1.heap s'.heap ∧ s'.os = s1.os ∧ AllBare s'.gens) s1 := by
  -- what is tracked at the start is the script at most
  have main : ∀ H : Hp, Only H → SqL K H a (ns.map V.int) → HOk P w H s1.heap → (∀ b u, H b = some u → b = a ∧ K.lookup a = none) →
      codeAny (model P w) callerA (.call (.ref fa) ⟨[.ref a], []⟩) (fun r s' => r = .ok (.ret (.bool true)) ∧ OldK s1.heap s'.heap ∧ s'.os = s1.os ∧ AllBare s'.gens) s1 := fun H only sq ok hA => by
    have free : ∀ b : Addr, b ≠ a → H b = none := fun b hb => by
      cases z : H b with
      | none => rfl
      | some u => exact absurd (hA b u z).1 hb
    have nsB : ∀ {b : Addr} {m : Str → Option Value}, s1.heap.Ns b m → (hidT s1.heap H).Ns b m := fun {b m} ⟨o, es, ep, g, d, rest⟩ => by
      refine ⟨o, es, ep, hidT_get g (free b fun z => ?_), d, rest⟩
      rw [z, ha] at g
      cases g
      cases d
    have kB : K.In (hidT s1.heap H) := fun b o g => by
      refine hidT_get (KX b o g) ?_
      cases z : H b with
      | none => rfl
      | some u =>
        obtain ⟨z1, z2⟩ := hA b u z
        rw [z1, z2] at g
        cases g
    have noF : ∀ b ∈ frs [], H b = none := fun b hb => by cases hb
    have env0 : Env0 P w K mg (hidT s1.heap H) callerA [] s1 H := { frames := rfl, mod := ⟨kB, nsB hns, ⟨mb, nsB hb, hbb⟩, let ⟨mc, n1, n2⟩ := lim; ⟨mc, nsB n1, n2⟩⟩, bs := fun b o e => of_hidT e, bsz := Nat.le_of_eq (hidT_size _ _), funs := trivial, frf := noF, hok := ok, bare := .of_eq gens }
    have run := (F _ kB (nsB hns)).go callerA [] s1 H ⟨[.ref a], []⟩ [.ref a] [.ref a] _ _ ⟨hr, rfl⟩ env0 (bd s1 (.ref a)) (.cons rfl .nil) (hsp H only sq)
    refine codeAny_mono run fun r s2 fin => ?_
    match r, fin with
    | .error e, fin => exact (hCX H e s2 fin).elim
    | .ok .next, fin => exact fin.elim
    | .ok .brk, fin => exact fin.elim
    | .ok .cont, fin => exact fin.elim
    | .ok (.ret u), ⟨v, H2, os, bare, un, ok2, rv, q⟩ =>
      subst q
      obtain rfl : u = Value.bool true := rv
      refine ⟨rfl, OldK.of_keep fun b o g => ?_, os, bare⟩
      cases z : H b with
      | none => exact un.keep b o g z (fun y => nomatch y) (fun y => nomatch y)
      | some u =>
        obtain z0 | ⟨o0, xs, z0⟩ := only b
        · rw [z] at z0
          cases z0
        · have g1 : s1.heap.get? b = some o0 := (ok b _ z0).1
          have g2 : s2.heap.get? b = some o0 := (ok2 b _ (un.frzs b o0 _ z0)).1
          rw [g] at g1
          cases g1
          exact g2
  have vi : Vals (ns.map V.int) us := vals_ints hi
  cases lk : K.lookup a with
  | some o =>
    have g := KX a o lk
    rw [ha] at g
    cases g
    exact main (fun _ => none) (fun _ => .inl rfl) (.inr ⟨_, us.toArray, _, lk, rfl, rfl, rfl, by rw [List.size_toArray, hi.length]; exact hl, by simpa using vi⟩) (fun _ _ z => nomatch z) fun _ _ z => nomatch z
  | none =>
    refine main (upd (fun _ => none) a (.frz { cls := .type "list", data := .seq us.toArray } (.lst (ns.map V.int)))) (fun b => ?_) (.inl (.inr ⟨_, upd_same⟩)) (fun b u z => ?_) fun b u z => ⟨?_, lk⟩
    · by_cases hb : b = a
      · exact .inr ⟨_, _, by rw [hb]; exact upd_same⟩
      · exact .inl (upd_ne hb)
    · by_cases hb : b = a
      · rw [hb, upd_same] at z
        cases z
        rw [hb]
        exact ⟨ha, by rw [List.length_map]; exact hl, us, _, vi, ha⟩
      · rw [upd_ne hb] at z
        cases z
    · by_cases hb : b = a
      · exact hb
      · rw [upd_ne hb] at z
        cases z
end
omit [WI] in
/-- the claim, by the guarded promise of its law -/
theorem walkG {l : PySem.W.OpenLaw} {n k : Nat} {q : Program} {loose : List Str} {XP : (Str → Option Value) → Heap → Prop} {YP : World → Heap → Prop} {d : DefRec} {K : Params → PySem.W.Frag} {CX : World → CXT} {sp : World → Sp} {x : Str}
    (hn : l.most = some n) (hn2 : n ≤ sizeLine) (hdf : d.params.defaults = []) (hr : Room k callerA) (hY : ∀ (w : World) (h : Heap), YP w h → (K w.params).In h)
    (F : ∀ (w : World) (mg : Str → Option Value) (fa : Addr) (h : Heap), (K w.params).In h → h.Ns mainGlobals mg → mg d.name = some (.ref fa) →
      ∃ fd : FuncData, (∀ (s : Shared) (u : Value), BindsTo s fd ⟨[u], []⟩ [(x, u)]) ∧ ∀ base : Heap, (K w.params).In base → base.Ns mainGlobals mg → FnG l.prog w (K w.params) mg base (CX w) k fa fd [x] (sp w))
    (hsp : ∀ (w : World) (H : Hp) (a : Addr) (ns : List Int), ns.length ≤ n → Only H → SqL (K w.params) H a (ns.map V.int) → sp w [.ref a] H (fun v _ => v = .bl true) fun _ _ _ => False)
    (hCX : ∀ (w : World) (H : Hp) (s : Shared) (e : Value) (s' : Shared), CX w [] H s (fun _ _ _ => False) e s' → False) : PySem.W.WalkO q loose XP YP l.row.toRowW d [] (fun f vs => PySem.call f vs) :=
  Att.attach_call hn hdf fun w s0 s1 mg mb fa o pm cd doc a vs ns G Y ho hd hcd hmg hobj hints hlen hg => by
    have kx := hY w _ Y
    obtain ⟨fd, hb, hF⟩ := F w mg fa _ kx G.T.g hmg
    exact topG kx G.T.g G.T.b G.T.builtins G.T.nolimit hg hobj hints (Nat.le_trans hlen hn2) hr hF hb (fun H hO hS => hsp w H a ns hlen hO hS) fun H e s' => hCX w H s1 e s'
end PD
/-! PD6: comprehensions; defs and their calls. -/
namespace PD
open PySem PySem.Spec L2
open PyProof.Rows hiding St
variable [WI]

/-! ### an object beside the slots that must stay -/
section
variable {K : PySem.W.Frag} {ex : ExT} {W : WX} {c : Act} {G H : Hp} {σ : St} {s : S} {p : Addr} {o : HO}
/-- p stands, by no slot, not frozen -/
structure Beside (c : Act) (G H : Hp) (σ : St) (s : S) (p : Addr) (o : HO) : Prop where
  at_ : H p = some o
  g : G p = none
  h0 : c.H0 p = none
  wa : p ≠ c.wa
  ne : ∀ (j : Nat), ObAt s j → σ[j]? ≠ some (some (.ref p))
  pl : plB o = true
abbrev Act.prot (c : Act) (p : Addr) (o : HO) : Act := { c with H0 := upd c.H0 p o }
theorem Rel.prot (r : Rel K c G H σ s) (b : Beside c G H σ s p o) : Rel K (c.prot p o) G H σ s := by
  refine ⟨⟨r.b.sub, r.b.wl, r.b.wf, r.b.scr, r.b.g0, fun a u e n => ?_, fun a u e mu n => ?_, fun q hq => let ⟨t, g, h⟩ := r.b.tb q hq; ⟨t, g, (upd_ne (TabS.ne t b.at_ (plB_pl b.pl))).trans h.1, fun a ps z => by
    by_cases ha : a = p
    · rw [ha] at z
      have z : upd c.H0 p o p = _ := z
      rw [upd_same] at z
      cases z
      cases (plB_pl b.pl)
    · exact h.2 a ps ((upd_ne ha).symm.trans z)⟩, r.b.ng⟩, r.len, fun i e q => ?_, r.sep⟩
  · have e : upd c.H0 p o a = some u := e
    by_cases h : a = p
    · subst h
      rw [upd_same] at e
      cases e
      exact b.at_
    · rw [upd_ne h] at e
      exact r.b.h0 a u e n
  · have e : upd c.H0 p o a = some u := e
    by_cases h : a = p
    · subst h
      exact b.g
    · rw [upd_ne h] at e
      exact r.b.n0 a u e mu n
  · obtain ⟨v, hv, he⟩ := r.slot i e q
    refine ⟨v, hv, he.conv (Same.refl _) rfl rfl rfl fun bb o' ⟨p', vs, ev, h1, h2, h3, h4, h5⟩ => ?_⟩
    have hn : p' ≠ p := fun z => b.ne i ⟨e, q, bb⟩ (by rw [hv, ev, z])
    exact ⟨p', vs, ev, h1, (upd_ne hn).trans h2, h3, h4, h5⟩
theorem Rel.unprot (pl : plB o = true) (h0 : c.H0 p = none) (g0 : c.G0 p = none) (wa : p ≠ c.wa) (r : Rel K (c.prot p o) G H σ s) : Rel K c G H σ s ∧ Beside c G H σ s p o := by
  refine ⟨⟨⟨r.b.sub, r.b.wl, r.b.wf, r.b.scr, r.b.g0, fun a u e n => r.b.h0 a u ((upd_ne (ne_of_none e h0)).trans e) n, fun a u e mu n => r.b.n0 a u ((upd_ne (ne_of_none e h0)).trans e) mu n, fun q hq => let ⟨t, g, h⟩ := r.b.tb q hq; ⟨t, g, (upd_ne (TabS.ne t (r.b.h0 p o upd_same wa) (plB_pl pl))).symm.trans h.1, fun a ps z => h.2 a ps ((upd_ne (ne_of_none z h0)).trans z)⟩, r.b.ng⟩, r.len, fun i e q => ?_, r.sep⟩,
    r.b.h0 p o upd_same wa, r.b.n0 p o upd_same (plB_mu pl) g0, h0, wa, fun j hj z => ?_, pl⟩
  · obtain ⟨v, hv, he⟩ := r.slot i e q
    refine ⟨v, hv, he.conv (Same.refl _) rfl rfl rfl fun bb o' ⟨p', vs, ev, h1, h2, h3, h4, h5⟩ => ?_⟩
    have h2 : upd c.H0 p o p' = none := h2
    have hn : p' ≠ p := fun z => by rw [z, upd_same] at h2; cases h2
    exact ⟨p', vs, ev, h1, (upd_ne hn).symm.trans h2, h3, h4, h5⟩
  · obtain ⟨e, q, bb⟩ := hj
    obtain ⟨v, hv, he⟩ := r.slot j _ q
    obtain ⟨o', p', vs, rfl, _, h2, _⟩ := he.ob bb
    rw [hv] at z
    cases z
    have h2 : upd c.H0 p o p = none := h2
    rw [upd_same] at h2
    cases h2
/-- it is changed -/
theorem Rel.setBeside (r : Rel K c G H σ s) (b : Beside c G H σ s p o) (o' : HO) (pl' : plB o' = true := by rfl) : Rel K c G (upd H p o') σ s ∧ Beside c G (upd H p o') σ s p o' := by
  refine ⟨⟨⟨fun a u e => ?_, ?_, r.b.wf, r.b.scr, r.b.g0, fun a u e n => ?_, r.b.n0, fun q hq => let ⟨t, g, h⟩ := r.b.tb q hq; ⟨TabS.set t b.at_ (plB_pl b.pl), g, h⟩, r.b.ng⟩, r.len, fun i e q => ?_, r.sep⟩, upd_same, b.g, b.h0, b.wa, b.ne, pl'⟩
  · rw [upd_ne (ne_of_none e b.g)]
    exact r.b.sub a u e
  · rw [upd_ne (Ne.symm b.wa)]
    exact r.b.wl
  · rw [upd_ne (ne_of_none e b.h0)]
    exact r.b.h0 a u e n
  · obtain ⟨v, hv, he⟩ := r.slot i e q
    refine ⟨v, hv, he.conv (Same.refl _) rfl rfl rfl fun bb o'' ⟨p', vs, ev, h1, h2, h3, h4, h5⟩ => ?_⟩
    have hn : p' ≠ p := fun z => b.ne i ⟨e, q, bb⟩ (by rw [hv, ev, z])
    exact ⟨p', vs, ev, h1, h2, h3, (upd_ne hn).trans h4, h5⟩
theorem Beside.fresh {vs : List V} {ds : List D} (b : Beside c G H σ s p (.lst vs)) (hd : DpAll K G vs ds) : Fresh K c G H σ s (.ref p) ds :=
  ⟨⟨p, _, rfl, b.g, b.h0, b.wa, b.at_, vs, rfl, hd⟩, fun j hj => b.ne j hj⟩
theorem Fresh.beside {v : V} {ds : List D} (h : Fresh K c G H σ s v ds) : ∃ p vs, v = .ref p ∧ DpAll K G vs ds ∧ Beside c G H σ s p (.lst vs) := by
  obtain ⟨⟨p, ho, rfl, h1, h2, h3, h4, ⟨vs, rfl, h5⟩⟩, hs⟩ := h
  exact ⟨p, vs, rfl, h5, h4, h1, h2, h3, fun j hj => hs j hj, rfl⟩
/-! slots wiped -/
theorem kill_len (l : List Nat) : ∀ (s : S), (kill l s).ρ.length = s.ρ.length := by
  induction l with
  | nil => intro s; rfl
  | cons i l ih => intro s; exact (ih (s.drop i)).trans (by simp)
theorem kill_w (l : List Nat) : ∀ (s : S), (kill l s).w = s.w := by
  induction l with
  | nil => intro s; rfl
  | cons i l ih => intro s; exact ih (s.drop i)
theorem drop_get {s : S} {i j : Nat} {e : Ent} (h : (s.drop i).ρ[j]? = some (some e)) : s.ρ[j]? = some (some e) ∧ i ≠ j := by
  have h : (s.ρ.set i none)[j]? = some (some e) := h
  by_cases hij : i = j
  · subst hij
    by_cases hl : i < s.ρ.length
    · rw [List.getElem?_set_self hl] at h
      cases h
    · rw [List.set_eq_of_length_le (by omega), List.getElem?_eq_none (by omega)] at h
      cases h
  · rw [List.getElem?_set_ne hij] at h
    exact ⟨h, hij⟩
theorem kill_get : ∀ (l : List Nat) {s : S} {j : Nat} {e : Ent}, (kill l s).ρ[j]? = some (some e) → s.ρ[j]? = some (some e) ∧ j ∉ l
  | [], s, j, e, h => ⟨h, by simp⟩
  | i :: l, s, j, e, h => by
    obtain ⟨h1, h2⟩ := kill_get l (s := s.drop i) h
    obtain ⟨h3, h4⟩ := drop_get h1
    exact ⟨h3, by simp [Ne.symm h4, h2]⟩
theorem wipe_at {σ : St} {vs : List Nat} {i : Nat} (h : i ∉ vs) : (wipe σ vs)[i]? = σ[i]? := wipe_out h
theorem Rel.toWipe {vs : List Nat} (r : Rel K c G H σ s) (hs : ∀ j e, s.ρ[j]? = some (some e) → j ∉ vs) {σ' : St} (hl : σ'.length = σ.length) (hσ : ∀ (j : Nat), j ∉ vs → σ'[j]? = σ[j]?) : Rel K c G H σ' s :=
  ⟨r.b, by rw [hl]; exact r.len, fun i e q => by rw [hσ i (hs i e q)]; exact r.slot i e q, fun i j v n h1 h2 h3 => by
    obtain ⟨e1, q1, b1⟩ := h1
    obtain ⟨e2, q2, b2⟩ := h2
    rw [hσ i (hs i _ q1)] at h3
    rw [hσ j (hs j _ q2)]
    exact r.sep i j v n ⟨e1, q1, b1⟩ ⟨e2, q2, b2⟩ h3⟩
theorem wipe_eq {σ σ' : St} {vs : List Nat} (hl : σ'.length = σ.length) (h : ∀ (j : Nat), j ∉ vs → σ'[j]? = σ[j]?) : wipe σ' vs = wipe σ vs := by
  apply List.ext_getElem?
  intro j
  by_cases hj : j ∈ vs
  · have key : ∀ (τ : St) (ws : List Nat), j ∈ ws → (wipe τ ws)[j]? = if j < τ.length then some none else none := by
      intro τ ws
      induction ws with
      | nil => intro h; simp at h
      | cons w ws ih =>
        intro h
        show ((wipe τ ws).set w none)[j]? = _
        by_cases e : w = j
        · subst e
          by_cases hlt : w < τ.length
          · rw [if_pos hlt, List.getElem?_set_self (by rw [wipe_length]; exact hlt)]
          · rw [if_neg hlt, List.set_eq_of_length_le (by rw [wipe_length]; omega), List.getElem?_eq_none (by rw [wipe_length]; omega)]
        · rw [List.getElem?_set_ne e]
          exact ih (by simpa [Ne.symm e] using h)
    rw [key σ' vs hj, key σ vs hj, hl]
  · rw [wipe_out hj, wipe_out hj, h j hj]
end

/-! ### comprehensions: nothing is raised within -/
def W0 : WX := fun _ _ _ _ => False
def R.nox {α : Type} : R α → R α
  | .ok a s => .ok a s
  | _ => .bad
@[simp] theorem R.nox_ok {α : Type} (a : α) (s : S) : (R.ok a s).nox = .ok a s := rfl
@[simp] theorem R.nox_bad {α : Type} : (R.bad : R α).nox = .bad := rfl
def cmpD (vs : List Nat) (tg : FG) (ft : FT) (fe : FE) : List D → Nat → S → R (List D)
  | [], _, s => .ok [] s
  | d :: ds, n, s => match tg d s with
    | none => .bad
    | some s1 => (ft s1).nox.bind fun b s2 => if b = true then (fe s2).nox.bind fun y s3 => if n < sizeLine then (cmpD vs tg ft fe ds (n + 1) (kill vs s3)).bind fun ys s4 => .ok (y :: ys) s4 else .bad
      else cmpD vs tg ft fe ds n (kill vs s2)
def fComp (vs : List Nat) (fi : FA) (tg : FG) (ft : FT) (fe : FE) : FA := fun s => (fi s).bind fun ds s => cmpD vs tg ft fe ds 0 (kill vs s)
def fYes : FT := fun s => .ok true s
section
variable {K : PySem.W.Frag} {ex : ExT} {W : WX}
theorem Post.seqN {α β : Type} {c c2 : Act} {G : Hp} {σ σ2 : St} {r : R α} {g : α → S → R β} {M : β → Hp → Hp → S → Prop} {N : α → Hp → Hp → S → Prop} (h : Post K ex W c G σ M (r.nox.bind g))
    (next : ∀ a s' G' H', Same G G' → Rel K c2 G' H' σ2 s' → Post K ex W c G' σ M (g a s') → N a G' H' s') : Post K ex W0 c2 G σ2 N r := by
  cases r with
  | ok a s => exact fun G2 H2 e2 r2 => next a s G2 H2 e2 r2 (Post.up h e2)
  | exc k as s => exact h.elim
  | bad => exact h.elim
theorem cmpD_drop {vs : List Nat} {tg : FG} {ft : FT} {fe : FE} {ds : List D} {i n : Nat} {d : D} (h : ds[i]? = some d) (s : S) : cmpD vs tg ft fe (ds.drop i) n s = cmpD vs tg ft fe (d :: ds.drop (i + 1)) n s := by
  obtain ⟨hi, e⟩ := List.getElem?_eq_some_iff.mp h
  rw [List.drop_eq_getElem_cons hi, e]
theorem lc_read {c : Act} {G H1 : Hp} {σ : St} {s : S} {J : It} {ds : List D} {l vs : List Nat} {tg : FG} {ft : FT} {fe : FE} {Dd : Addr} {Q : V → Hp → Prop} (hl : ∀ i ∈ l, i ∈ vs) (wk : WkD K G J ds) (r : Rel K c G H1 σ s) (hD : H1 Dd = none)
    (h : Post K ex W c G σ (fun ds G' H' s' => ∀ v, Fresh K c G' H' σ s' v ds → Q v H') (cmpD vs tg ft fe ds 0 (kill vs s))) :
    ∃ W' : Nat → Nat → Hp → Prop, (∃ m, W' 0 m (upd H1 Dd (.lst []))) ∧ ∀ i m H, W' i m H →
      (J.stop i H ∧ Q (.ref Dd) H) ∨ (J.go i H ∧ ∃ Nx : Hp → Prop, (∀ H', Nx H' → ∃ m', m' < m ∧ W' (i + 1) m' H') ∧ ∀ x H', J.yld i H x H' → tG K l tg x (wipe σ vs) H' fun σ2 H2 => wipe σ2 vs = wipe σ vs ∧ tT K ex W0 ft σ2 H2 fun b H3 =>
        if b = true then tE K ex W0 fe σ2 H3 fun y H4 => ∃ acc, H4 Dd = some (.lst acc) ∧ acc.length < sizeLine ∧ Nx (upd H4 Dd (.lst (acc ++ [y]))) else Nx H3) := by
  have g0 : c.G0 Dd = none := (r.b.free hD).2.2.2
  have h0 : c.H0 Dd = none := (r.b.free hD).2.2.1
  have hwa : Dd ≠ c.wa := (r.b.free hD).2.1
  have kk : ∀ (s : S) j e, (kill vs s).ρ[j]? = some (some e) → j ∉ vs := fun s j e q => (kill_get vs q).2
  refine lc_it wk (Qd := fun H => Q (.ref Dd) H) (fun i H => ∃ G' s' acc ys, Same G G' ∧ (∀ j e, s'.ρ[j]? = some (some e) → j ∉ vs) ∧ Rel K c G' H σ s' ∧ Beside c G' H σ s' Dd (.lst acc) ∧ DpAll K G' acc ys ∧
    Post K ex W c G' σ (fun ds G' H' s' => ∀ v, Fresh K c G' H' σ s' v (ys ++ ds) → Q v H') (cmpD vs tg ft fe (ds.drop i) ys.length s')) ?_ (fun i H hi ⟨G', s', acc, ys, e, _, r', _⟩ => ⟨G', e, r'.b.sub⟩) (fun i x H H' hi pv y => ?_) (fun H pv => ?_)
  · obtain ⟨r1, f1⟩ := (r.kill vs).newOwn (ds := []) hD .nil
    obtain ⟨p, ws, e1, q1, b1⟩ := f1.beside
    cases e1
    have e2 : ws = [] := by
      have z := b1.at_
      rw [upd_same] at z
      cases z
      rfl
    subst e2
    exact ⟨G, kill vs s, [], [], Same.refl _, kk s, r1, b1, .nil, h⟩
  · obtain ⟨G', s', acc, ys, e, kl, r', b', hacc, h'⟩ := pv
    -- what is walked, under protection of the new list
    have rp := (r'.prot b').toWipe kl (wipe_length σ vs) fun j hj => wipe_out hj
    obtain ⟨G2, d, e2, r2, hd, hx⟩ := y _ _ _ _ e rp
    rw [cmpD_drop hd] at h'
    unfold cmpD at h'
    cases z : tg d s' with
    | none =>
      simp only [z] at h'
      exact h'.elim
    | some s1 =>
      simp only [z] at h'
      refine ⟨c.prot Dd (.lst acc), G2, s', d, s1, r2, hx, z, fun σ3 k3 r3 => ?_⟩
      have w3 : ∀ (j : Nat), j ∉ vs → σ3[j]? = (wipe σ vs)[j]? := fun j hj => k3.2 j fun q => hj (hl j q)
      refine ⟨(wipe_eq k3.1 w3).trans (wipe_eq (wipe_length σ vs) fun j hj => wipe_out hj), ?_⟩
      have σ3o : ∀ (j : Nat), j ∉ vs → σ[j]? = σ3[j]? := fun j hj => ((w3 j hj).trans (wipe_out hj)).symm
      have σ3l : σ.length = σ3.length := by rw [k3.1, wipe_length]
      refine ⟨c.prot Dd (.lst acc), G2, s1, r3, Post.seqN (Post.up h' e2) fun b s2 G3 H3 e3 r4 h4 => ?_⟩
      cases b with
      | false =>
        simp only [Bool.false_eq_true, if_false] at h4 ⊢
        obtain ⟨r5, b5⟩ := Rel.unprot rfl h0 g0 hwa (((r4.kill vs).toWipe (kk s2) σ3l σ3o))
        exact ⟨G3, kill vs s2, acc, ys, (e.trans e2).trans e3, kk s2, r5, b5, (hacc.up e2).up e3, h4⟩
      | true =>
        simp only [if_true] at h4 ⊢
        refine ⟨c.prot Dd (.lst acc), G3, s2, r4, Post.seqN h4 fun yd s3 G4 H4 e4 r5 h5 v hv => ?_⟩
        by_cases hn : ys.length < sizeLine
        · rw [if_pos hn] at h5
          obtain ⟨r6, b6⟩ := Rel.unprot rfl h0 g0 hwa (((r5.kill vs).toWipe (kk s3) σ3l σ3o))
          obtain ⟨r7, b7⟩ := r6.setBeside b6 (.lst (acc ++ [v]))
          refine ⟨acc, b6.at_, by rw [hacc.len]; exact hn, G4, kill vs s3, acc ++ [v], ys ++ [yd], ((e.trans e2).trans e3).trans e4, kk s3, r7, b7, (((hacc.up e2).up e3).up e4).app (.cons hv .nil), ?_⟩
          rw [List.length_append, List.length_singleton]
          refine Post.seq h5 fun a s4 G5 H5 e5 r8 h8 u hu => ?_
          rw [List.append_assoc] at hu
          exact h8.val' r8 u hu
        · rw [if_neg hn] at h5
          exact h5.elim
  · obtain ⟨G', s', acc, ys, e, kl, r', b', hacc, h'⟩ := pv
    rw [List.drop_length] at h'
    have f := b'.fresh hacc
    exact h'.val' r' _ (by rw [List.append_nil]; exact f)
end
section
variable {X : Cx} {ex : ExT} {W : WX}
theorem oComp {elt tg iter : Expr} {ifs : List Expr} {scope : Scope} {own : List (Str × Nat)} {pos : Pos} {l : List Nat} {fi : FA} {fg : FG} {ft : FT} {fe : FE} (hc : X.calm = true) (hN : X.N.Nodup) (hi : PI X tg iter (tI X.K ex W fi)) (ok : BlkOk X.N X.env.scope scope own)
    (hg : ∀ (s : Shared) (H : Hp) (C : Addr) (cl : List (Str × Addr)) (fp : List Addr), PG (X.blk s H scope (compEnvC scope cl C X.env) fp) tg (tG X.K l fg)) (ht : ∀ (s : Shared) (H : Hp) (C : Addr) (cl : List (Str × Addr)) (fp : List Addr), PTs (X.blk s H scope (compEnvC scope cl C X.env) fp) ifs (tT X.K ex W0 ft))
    (he : ∀ (s : Shared) (H : Hp) (C : Addr) (cl : List (Str × Addr)) (fp : List Addr), PE (X.blk s H scope (compEnvC scope cl C X.env) fp) elt (tE X.K ex W0 fe)) (hl : ∀ i ∈ l, i ∈ own.map (·.2) := by decide) (hs : ∀ x, foldedSetIterable iter X.env x = pure x := by intro _; rfl) :
    PE X (.ListComp elt [⟨tg, iter, ifs, 0⟩] scope pos) (tO X.K ex W (fComp (own.map (·.2)) fi fg ft fe)) :=
  PE.imp (pe_lc hc hN hi ok hg ht he hs) fun σ H Q ⟨c, G, s, r, h⟩ =>
    ⟨c, G, s, r, Post.seq h fun ds s1 G1 H1 e1 r1 h1 J wk Dd hD => lc_read hl wk r1 hD h1⟩
/-- name = [..] on one line, the name a local -/
theorem kSetLc {i : Nat} {y : Str} {py : Pos} {elt tg iter : Expr} {ifs : List Expr} {scope : Scope} {own : List (Str × Nat)} {pos spos : Pos} {l : List Nat} {fi : FA} {fg : FG} {ft : FT} {fe : FE} (hc : X.calm = true) (hN : X.N.Nodup)
    (hi : PI X tg iter (tI X.K ex W fi)) (ok : BlkOk X.N X.env.scope scope own)
    (hg : ∀ (s : Shared) (H : Hp) (C : Addr) (cl : List (Str × Addr)) (fp : List Addr), PG (X.blk s H scope (compEnvC scope cl C X.env) fp) tg (tG X.K l fg)) (ht : ∀ (s : Shared) (H : Hp) (C : Addr) (cl : List (Str × Addr)) (fp : List Addr), PTs (X.blk s H scope (compEnvC scope cl C X.env) fp) ifs (tT X.K ex W0 ft))
    (he : ∀ (s : Shared) (H : Hp) (C : Addr) (cl : List (Str × Addr)) (fp : List Addr), PE (X.blk s H scope (compEnvC scope cl C X.env) fp) elt (tE X.K ex W0 fe)) (hy : X.N[i]? = some y := by rfl) (hyl : X.env.scope.names.lookup y = some .local := by rfl)
    (hsw : swapsWith (.ListComp elt [⟨tg, iter, ifs, 0⟩] scope pos) (some (.Name y py)) spos.line X.env = pure true := by exact sw_true rfl rfl rfl (by decide +kernel)) (hl : ∀ i ∈ l, i ∈ own.map (·.2) := by decide) (hs : ∀ x, foldedSetIterable iter X.env x = pure x := by intro _; rfl) :
    PS X (.Assign [.Name y py] (.ListComp elt [⟨tg, iter, ifs, 0⟩] scope pos) spos) (tS X.K ex W (sSetO i (fComp (own.map (·.2)) fi fg ft fe))) :=
  PS.imp (ps_setLc hc hN hy hyl hsw hi ok hg ht he hs) fun En σ H ⟨c, G, s, r, h⟩ => by
    have h : PostO X.K ex W c G En (((fi s).bind fun ds s => cmpD (own.map (·.2)) fg ft fe ds 0 (kill (own.map (·.2)) s)).stm fun ds s => .nx (s.put i (.own ds))) := h
    have h2 : Post X.K ex W c G σ (fun ds G' H' s' => ∀ v, Fresh X.K c G' H' σ s' v ds → En.nx (σ.set i (some v)) H') ((fi s).bind fun ds s => cmpD (own.map (·.2)) fg ft fe ds 0 (kill (own.map (·.2)) s)) :=
      PostO.fromR h fun ds s' G' H' e r' h' v hv => h' _ G' H' (Same.refl _) (hv.put r' i)
    exact ⟨c, G, s, r, Post.seq h2 fun ds s1 G1 H1 e1 r1 h1 J wk Dd hD => lc_read (Q := fun v H' => En.nx (σ.set i (some v)) H') hl wk r1 hD h1⟩
theorem tsNil : PTs X [] (tT X.K ex W fYes) := PTs.imp pts_nil fun σ H Q ⟨_, _, _, r, h⟩ => h.val' r
theorem tsOne {e : Expr} {ft : FT} (h : PT X e (tT X.K ex W ft)) : PTs X [e] (tT X.K ex W ft) := pts_one h
end

/-! ### defs -/
inductive FR where
  | ret (d : D) (w : Wst)
  | exc (k : Nat) (as : List D) (w : Wst)
  | bad
abbrev Sem' := List D → Wst → FR
/-- n arguments of data, behind the draw list where h -/
def spD (K : PySem.W.Frag) (ex : ExT) (h : Bool) (n : Nat) (sem : Sem') : Sp := fun vs H Q E => ∃ (wa sc : Addr) (G : Hp) (w : Wst) (ds : List D) (vs' : List V), Base K ⟨wa, sc, G, H, 0, []⟩ G H w ∧ vs = (if h = true then V.ref wa :: vs' else vs') ∧ ds.length = n ∧ DpAll K G vs' ds ∧
  match sem ds w with
  | .ret d w' => ∀ v G' H', Base K ⟨wa, sc, G, H, 0, []⟩ G' H' w' → Dp K G' v d → Q v H'
  | .exc k as w' => ∀ cls dx G' H', Base K ⟨wa, sc, G, H, 0, []⟩ G' H' w' → ExcIs K ex k as cls dx G' H' → E cls dx H'
  | .bad => False
def startS (N : Nat) (h : Bool) (ds : List D) (w : Wst) : S :=
  ⟨(if h = true then [some Ent.hdl] else []) ++ (ds.map fun d => some (Ent.val d)) ++ List.replicate (N - ((if h = true then 1 else 0) + ds.length)) none, w⟩
def outF : O → FR
  | .rt d s => .ret d s.w
  | .nx s => .ret .none s.w
  | .exc k as s => .exc k as s.w
  | _ => .bad
def semOf (N : Nat) (h : Bool) (f : FO) : Sem' := fun ds w => outF (f (startS N h ds w))
structure FnD (P : Program) (w : World) (K : PySem.W.Frag) (mg : Str → Option Value) (base : Heap) (ex : ExT) (k : Nat) (x : Str) (h : Bool) (n : Nat) (sem : Sem') : Prop where
  ex : ∃ f fd ps, FnG P w K mg base (L2.CX P w) k f fd ps (spD K ex h n sem) ∧ mg x = some (.ref f) ∧ PySem.W.keepIn K (.ref f) = true ∧ Binds K fd ps []
theorem FnD.mono {P : Program} {w : World} {K : PySem.W.Frag} {mg : Str → Option Value} {base : Heap} {ex : ExT} {j k : Nat} {x : Str} {h : Bool} {n : Nat} {sem : Sem'} (F : FnD P w K mg base ex j x h n sem) (hk : j ≤ k) : FnD P w K mg base ex k x h n sem := by
  obtain ⟨f, fd, ps, a, b, c, d⟩ := F.ex
  exact ⟨f, fd, ps, a.mono hk, b, c, d⟩
section
variable {P : Program} {w : World} {K : PySem.W.Frag} {mg : Str → Option Value} {base : Heap} {ex : ExT}
theorem base_refl {c : Act} {G H : Hp} {w : Wst} (b : Base K c G H w) : Base K ⟨c.wa, c.sc, G, H, 0, []⟩ G H w := ⟨b.sub, b.wl, b.wf, b.scr, Same.refl _, fun _ _ e _ => e, fun _ _ _ _ n => n, (fun _ h => nomatch h), b.ng⟩
theorem start_rel {wa sc : Addr} {G H : Hp} {w : Wst} {ds : List D} {vs' : List V} {N : List Str} {h : Bool} (b : Base K ⟨wa, sc, G, H, 0, []⟩ G H w) (hd : DpAll K G vs' ds) (hl : ds.length + (if h = true then 1 else 0) ≤ N.length) :
    Rel K ⟨wa, sc, G, H, 0, []⟩ G H (start N (if h = true then V.ref wa :: vs' else vs')) (startS N.length h ds w) := by
  have ev := hd.len
  have key : ∀ (i : Nat) d, ((ds.map fun d => some (Ent.val d))[i]? = some (some d)) → ∃ v, (vs'.map some)[i]? = some (some v) ∧ EntOk K ⟨wa, sc, G, H, 0, []⟩ G H v d := fun i d e => by
    rw [List.getElem?_map] at e
    cases z : ds[i]? with
    | none => rw [z] at e; cases e
    | some d' =>
      rw [z] at e
      have e : Ent.val d' = d := by simpa using e
      subst e
      obtain ⟨v, hv, hvd⟩ := hd.get z
      exact ⟨v, by rw [List.getElem?_map, hv]; rfl, hvd⟩
  have noown : ∀ (i : Nat), ObAt (startS N.length h ds w) i → False := fun i ⟨e, q, bb⟩ => by
    have m := List.mem_of_getElem? q
    unfold startS at m
    simp only [List.mem_append, List.mem_map, List.mem_replicate] at m
    rcases m with (m | ⟨d, _, m⟩) | ⟨_, m⟩
    · cases h with
      | true =>
        have e' : e = Ent.hdl := by simpa using m
        rw [e'] at bb
        cases bb
      | false => simp at m
    · cases m
      cases bb
    · cases m
  refine ⟨b, ?_, fun i e q => ?_, fun i j v n h1 => (noown i h1).elim⟩
  · unfold startS L2.start
    cases h <;> simp at hl ⊢ <;> omega
  · unfold startS at q
    unfold L2.start
    cases h with
    | true =>
      simp only [if_true] at q ⊢
      cases i with
      | zero =>
        have e' : Ent.hdl = e := by simpa using q
        subst e'
        exact ⟨_, rfl, rfl⟩
      | succ i =>
        have q : ((ds.map fun d => some (Ent.val d)) ++ List.replicate (N.length - (1 + ds.length)) none)[i]? = some (some e) := by simpa using q
        by_cases hi : i < ds.length
        · rw [List.getElem?_append_left (by simpa using hi)] at q
          obtain ⟨v, hv, he⟩ := key i e q
          refine ⟨v, ?_, he⟩
          show ((vs'.map some) ++ _)[i]? = _
          rw [List.getElem?_append_left (by simp; omega)]
          exact hv
        · rw [List.getElem?_append_right (by simp; omega)] at q
          have m := List.mem_of_getElem? q
          rw [List.mem_replicate] at m
          cases m.2
    | false =>
      simp only [Bool.false_eq_true, if_false, List.nil_append] at q ⊢
      by_cases hi : i < ds.length
      · rw [List.getElem?_append_left (by simpa using hi)] at q
        obtain ⟨v, hv, he⟩ := key i e q
        refine ⟨v, ?_, he⟩
        rw [List.getElem?_append_left (by simp; omega)]
        exact hv
      · rw [List.getElem?_append_right (by simp; omega)] at q
        have m := List.mem_of_getElem? q
        rw [List.mem_replicate] at m
        cases m.2
/-- a def keeps what its body does -/
theorem fnD {x qual : Str} {st : Stmt} {f : Addr} {fd : FuncData} {N ps : List Str} {k n : Nat} {h : Bool} {fb : FO} (F : Fun K x qual st f fd) (Sc : FnScope N ps (defScope st)) (hn : n + (if h = true then 1 else 0) = ps.length)
    (hN : ps.length ≤ N.length)
    (body : ∀ (cdv : Value) (A : Around) (outer : List Env) (s : Shared) (H : Hp) (E : XK), RoomG k (A.deeper (envOfC qual (defScope st) s.heap.objs.size f cdv)) →
      PSs (cxOf (L2.CX P w) P w K mg base N qual (defScope st) f cdv A outer s H E) (defBody st) (tS K ex (fun cls d _ H => E cls d H) fb))
    (hb : Binds K fd ps []) (hmg : mg x = some (.ref f)) : FnD P w K mg base ex (k + 1) x h n (semOf N.length h fb) := by
  refine ⟨f, fd, ps, okG F Sc (fun vs H Q E hh => ?_) (fun cdv A outer s H vs Q E hr hh => ⟨_, body cdv A outer s H E hr, ?_⟩), hmg, F.kp, hb⟩
  · obtain ⟨wa, sc, G, w, ds, vs', _, e, hl, hd, _⟩ := hh
    have z := hd.len
    subst e
    cases h <;> simp at hn ⊢ <;> omega
  · obtain ⟨wa, sc, G, w, ds, vs', b, rfl, hl, hd, q⟩ := hh
    refine ⟨⟨wa, sc, G, H, 0, []⟩, G, startS N.length h ds w, start_rel b hd (by omega), ?_⟩
    unfold semOf at q
    cases z : fb (startS N.length h ds w) with
    | nx s' =>
      rw [z] at q
      exact fun σ' G' H' _ r' => q _ G' H' r'.b .non
    | rt d s' =>
      rw [z] at q
      exact fun v σ' G' H' _ r' hv => q _ G' H' r'.b hv
    | exc k as s' =>
      rw [z] at q
      exact fun cls dx σ' G' H' _ r' hx => q _ _ G' H' r'.b hx
    | bk s' => rw [z] at q; exact q.elim
    | ct s' => rw [z] at q; exact q.elim
    | bad => rw [z] at q; exact q.elim
end
section
variable {K : PySem.W.Frag} {c : Act} {G H G' H' : Hp} {σ : St} {s : S} {w' : Wst}
/-- behind a call -/
theorem Rel.after (r : Rel K c G H σ s) (b : Base K ⟨c.wa, c.sc, G, H, 0, []⟩ G' H' w') : Same G G' ∧ Rel K c G' H' σ { s with w := w' } := by
  refine ⟨b.g0, ⟨b.sub, b.wl, b.wf, b.scr, r.b.g0.trans b.g0, fun a o e n => b.h0 a o (r.b.h0 a o e n) n, fun a o e mu n => ?_, fun q hq => let ⟨t, g, h⟩ := r.b.tb q hq; have ⟨ps, z⟩ := TabS.at_ t; ⟨t.exw r.b.wl b.h0, b.n0 _ _ z rfl g, h⟩, b.ng⟩, r.len, fun i e q => ?_, r.sep⟩
  · by_cases ha : a = c.wa
    · rw [ha]
      exact b.wf
    · exact b.n0 a o (r.b.h0 a o e ha) mu (r.b.n0 a o e mu n)
  · obtain ⟨v, hv, he⟩ := r.slot i e q
    exact ⟨v, hv, he.up b.g0 fun p vs h1 h2 _ h4 mu => ⟨b.h0 p _ h1 h4, b.n0 p _ h1 mu h2⟩⟩
end
def callR (sem : Sem') (ds : List D) (s : S) : R D :=
  match sem ds s.w with
  | .ret d w => .ok d { s with w := w }
  | .exc k as w => .exc k as { s with w := w }
  | .bad => .bad
def fCall (n : Nat) (sem : Sem') (f : FA) : FE := fun s => (f s).bind fun ds s => if ds.length = n then callR sem ds s else .bad
/-- f(the draw list, ..) -/
def fCallH (n i : Nat) (sem : Sem') (f : FA) : FE := fun s => match s.ρ[i]? with
  | some (some .hdl) => (f s).bind fun ds s => if ds.length = n then callR sem ds s else .bad
  | _ => .bad
section
variable {X : Cx} {ex : ExT} {W : WX}
theorem call_fin {c : Act} {G H : Hp} {σ : St} {s : S} {Q : VK} {h : Bool} {n : Nat} {sem : Sem'} {ds : List D} {vs vs' : List V} (r : Rel X.K c G H σ s) (hd : DpAll X.K G vs' ds) (hl : ds.length = n) (hv : vs = if h = true then V.ref c.wa :: vs' else vs')
    (q : Post X.K ex W c G σ (fun d G' H' _ => ∀ v, Dp X.K G' v d → Q v H') (callR sem ds s)) : spD X.K ex h n sem vs H Q (WE W σ) := by
  refine ⟨c.wa, c.sc, G, s.w, ds, vs', base_refl r.b, hv, hl, hd, ?_⟩
  unfold callR at q
  cases z : sem ds s.w with
  | ret d w' =>
    rw [z] at q
    intro v G' H' b hvd
    obtain ⟨e, r'⟩ := r.after b
    exact q G' H' e r' v hvd
  | exc k as w' =>
    rw [z] at q
    intro cls dx G' H' b hx
    obtain ⟨e, r'⟩ := r.after b
    exact q cls dx G' H' e r' hx
  | bad =>
    rw [z] at q
    exact q.elim
theorem eCall {k n : Nat} {x : Str} {sem : Sem'} {e : Expr} {es : List Expr} {f : FA} {p pos : Pos} (F : FnD X.prog X.w X.K X.mg X.base ex k x false n sem) (hr : RoomG k X.A) (tk : Takes X W) (ha : PA X (e :: es) (tA X.K ex W f)) (hg : Gl X x := by rfl)
    (hdb : (x == ("__debug__" : Str)) = false := by decide) (he : starEach (e :: es) X.env = (false, eval e X.env) :: starEach es X.env := by rfl) (hpl : (backTo pos (starEach es X.env)).any (·.1) = false := by rfl) :
    PE X (.Call (.Name x p) (e :: es) [] pos) (tE X.K ex W (fCall n sem f)) := by
  obtain ⟨fa, fd, ps, ok, hm, hk, hb⟩ := F.ex
  refine PE.imp (pe_callG ok hr hg hm hk hb (fun σ => passAt tk σ) ha hdb he hpl) fun σ H Q ⟨c, G, s, r, q⟩ => inA r q fun ds s1 G1 H1 vs e1 r1 hv q1 => ?_
  by_cases hl : ds.length = n
  · rw [if_pos hl] at q1
    exact call_fin r1 hv hl rfl q1
  · rw [if_neg hl] at q1
    exact q1.elim
theorem eCallH (i : Nat) {k n : Nat} {x y : Str} {sem : Sem'} {es : List Expr} {f : FA} {p p' pos : Pos} (F : FnD X.prog X.w X.K X.mg X.base ex k x true n sem) (hr : RoomG k X.A) (tk : Takes X W) (ha : PA X es (tA X.K ex W f)) (hg : Gl X x := by rfl)
    (hN : X.N[i]? = some y := by rfl) (hv : Vis X.env.scope y := by first | exact Or.inl rfl | exact Or.inr (Or.inl rfl) | exact Or.inr (Or.inr rfl))
    (hd : (y == ("__debug__" : Str)) = false := by decide) (hcd : (y == ("__classdict__" : Str)) = false := by decide)
    (hdb : (x == ("__debug__" : Str)) = false := by decide) (he : starEach (.Name y p' :: es) X.env = (false, eval (.Name y p') X.env) :: starEach es X.env := by rfl) (hpl : (backTo pos (starEach es X.env)).any (·.1) = false := by rfl) :
    PE X (.Call (.Name x p) (.Name y p' :: es) [] pos) (tE X.K ex W (fCallH n i sem f)) := by
  obtain ⟨fa, fd, ps, ok, hm, hk, hb⟩ := F.ex
  refine PE.imp (pe_callG ok hr hg hm hk hb (fun σ => passAt tk σ) (pa_cons (pe_var hN hv hd hcd) ha he) hdb he hpl) fun σ H Q ⟨c, G, s, r, q⟩ => ?_
  have q : Post X.K ex W c G σ (fun d G' H' _ => ∀ v, Dp X.K G' v d → Q v H') (match s.ρ[i]? with
    | some (some .hdl) => (f s).bind fun ds s => if ds.length = n then callR sem ds s else .bad
    | _ => .bad) := q
  split at q
  · rename_i hh
    obtain ⟨v, hv, he⟩ := r.slot i _ hh
    refine ⟨v, hv, inA r q fun ds s1 G1 H1 vs e1 r1 hvs q1 => ?_⟩
    by_cases hl : ds.length = n
    · rw [if_pos hl] at q1
      refine call_fin (h := true) r1 hvs hl ?_ q1
      have he : v = .ref c.wa := he
      rw [he]
      rfl
    · rw [if_neg hl] at q1
      exact q1.elim
  · exact q.elim
end
end PD
/-! PD7: append, item stores, slices, built-in functions; the draw list; a law. -/
namespace PD
open PySem PySem.Spec L2
open PyProof.Rows hiding St
variable [WI]

section
variable {K : PySem.W.Frag} {c : Act} {G H : Hp} {σ : St} {s : S}
/-- a slot's own list as an object beside -/
theorem Rel.takeOwn {i : Nat} {ds : List D} (r : Rel K c G H σ s) (h : s.ρ[i]? = some (some (.own ds))) : ∃ p vs, σ[i]? = some (some (.ref p)) ∧ DpAll K G vs ds ∧ Rel K c G H σ (s.drop i) ∧ Beside c G H σ (s.drop i) p (.lst vs) := by
  obtain ⟨v, hv, p, ho, rfl, h1, h2, h3, h4, ⟨vs, rfl, h5⟩⟩ := r.slot i _ h
  refine ⟨p, vs, hv, h5, r.forget i, h4, h1, h2, h3, fun j ⟨e, q, b⟩ => ?_, rfl⟩
  obtain ⟨q, hij⟩ := drop_get q
  exact r.sep i j _ hij ⟨_, h, rfl⟩ ⟨e, q, b⟩ hv
theorem put_same {i : Nat} {v : V} (h : σ[i]? = some (some v)) : σ.set i (some v) = σ := by
  apply List.ext_getElem?
  intro j
  by_cases hj : i = j
  · subst hj
    rw [List.getElem?_set_self (List.getElem?_eq_some_iff.mp h).1]
    exact h.symm
  · rw [List.getElem?_set_ne hj]
theorem drop_put {i : Nat} {e : Ent} : (s.drop i).put i e = s.put i e := by
  show (⟨(s.ρ.set i none).set i (some e), s.w⟩ : S) = ⟨s.ρ.set i (some e), s.w⟩
  rw [List.set_set]
/-- .. changed -/
theorem Rel.setOwn {i : Nat} {ds ds' : List D} {p : Addr} {vs vs' : List V} (r : Rel K c G H σ s) (h : s.ρ[i]? = some (some (.own ds))) (hv : σ[i]? = some (some (.ref p))) (hp : H p = some (.lst vs)) (hd : DpAll K G vs' ds') :
    Rel K c G (upd H p (.lst vs')) σ (s.put i (.own ds')) := by
  obtain ⟨p', ws, e, _, r1, b1⟩ := r.takeOwn h
  rw [hv] at e
  cases e
  obtain ⟨r2, b2⟩ := r1.setBeside b1 (.lst vs')
  have r3 := (b2.fresh hd).put r2 i
  rw [put_same hv, drop_put] at r3
  exact r3
end

/-- name.append(e) -/
def sApp (i : Nat) (f : FE) : FO := fun s => match look s i with
  | some (.list _) => (f s).stm fun d s => match s.ρ[i]? with
    | some (some (.own ds)) => if ds.length < sizeLine then .nx (s.put i (.own (ds ++ [d]))) else .bad
    | _ => .bad
  | _ => .bad
section
variable {X : Cx} {ex : ExT} {W : WX}
theorem kApp (i : Nat) {x : Str} {e : Expr} {f : FE} {p apos pos pos2 : Pos} (he : PE X e (tE X.K ex W f)) (hN : X.N[i]? = some x := by rfl) (hv : Vis X.env.scope x := by first | exact Or.inl rfl | exact Or.inr (Or.inl rfl) | exact Or.inr (Or.inr rfl))
    (hd : (x == ("__debug__" : Str)) = false := by decide) (hcd : (x == ("__classdict__" : Str)) = false := by decide)
    (hbase : attributeBase (.Name x p) "append" X.env (eval (.Name x p) X.env) = eval (.Name x p) X.env := by rfl)
    (hfew : ((backTo pos (starEach [e] X.env)).all (fun x => !x.1) && (backToKw pos (keywordEach [] X.env)).all (fun x => x.1.isSome) && decide ([e].length + ([] : List Keyword).length + (if ([] : List Keyword).isEmpty then 0 else 1) < 30)) = true := by rfl)
    (hline : (apos.endLine == pos.line) = true := by rfl) (hs : starEach [e] X.env = (false, eval e X.env) :: starEach [] X.env := by rfl) (hplain : (backTo pos (starEach [] X.env)).any (·.1) = false := by rfl)
    (hsw : swapsWith (.Call (.Attribute (.Name x p) "append" apos) [e] [] pos) none pos2.line X.env = pure false := by rfl) :
    PS X (.Expr (.Call (.Attribute (.Name x p) "append" apos) [e] [] pos) pos2) (tS X.K ex W (sApp i f)) :=
  PS.imp (ps_expr (pe_bm PySem.F.plainAttrs_list PySem.F.slot_list_append PySem.F.type_list_append mt_append (pe_var hN hv hd hcd) (pa_cons he pa_nil hs) hbase hfew hline hs hplain) hsw) fun En σ H ⟨c, G, s, r, h⟩ => by
    have h : PostO X.K ex W c G En (match look s i with
      | some (.list _) => (f s).stm fun d s => match s.ρ[i]? with
        | some (some (.own ds)) => if ds.length < sizeLine then .nx (s.put i (.own (ds ++ [d]))) else .bad
        | _ => .bad
      | _ => .bad) := h
    cases z : look s i with
    | none => rw [z] at h; exact h.elim
    | some d0 =>
      cases d0 with
      | list xs0 =>
        rw [z] at h
        obtain ⟨v, hv, hd0⟩ := r.look z
        cases hd0 with
        | lst q1 q2 =>
          rename_i p ws
          refine ⟨_, hv, .inl ⟨rfl, _, q1⟩, soE r h fun d s1 G1 H1 v' e1 r1 hv' h1 => ?_⟩
          split at h1
          · rename_i ds hds
            by_cases hl : ds.length < sizeLine
            · rw [if_pos hl] at h1
              obtain ⟨p', vs, ep, hd, r2, b2⟩ := r1.takeOwn hds
              rw [hv] at ep
              cases ep
              refine ⟨p, vs, v', rfl, rfl, b2.at_, by rw [hd.len]; exact hl, ?_⟩
              exact h1 σ G1 _ (Same.refl _) (r1.setOwn hds hv b2.at_ (hd.app (.cons hv' .nil)))
            · rw [if_neg hl] at h1
              exact h1.elim
          · exact h1.elim
      | _ => rw [z] at h; exact h.elim
/-- name[ix] = e, the name's own list -/
def sSetIx (i : Nat) (f g : FE) : FO := fun s => (f s).stm fun d s => match look s i with
  | none => .bad
  | some _ => (g s).stm fun j s => match s.ρ[i]?, j with
    | some (some (.own ds)), .int k => match ixN ds.length k with
      | some n => .nx (s.put i (.own (ds.set n d)))
      | none => .bad
    | _, _ => .bad
theorem kSetIx (i : Nat) {x : Str} {e ix : Expr} {f g : FE} {p spos pos : Pos} (he : PE X e (tE X.K ex W f)) (hg : PE X ix (tE X.K ex W g)) (hN : X.N[i]? = some x := by rfl) (hv : Vis X.env.scope x := by first | exact Or.inl rfl | exact Or.inr (Or.inl rfl) | exact Or.inr (Or.inr rfl))
    (hd : (x == ("__debug__" : Str)) = false := by decide) (hcd : (x == ("__classdict__" : Str)) = false := by decide)
    (ha : ∀ v, assign (.Subscript (.Name x p) ix spos) X.env v = (do
      let ov ← holding [v] (eval (.Name x p) X.env)
      let iv ← holding [v, ov] (eval ix X.env)
      standAt spos
      holding [v, ov, iv] (setItem ov iv v)
      release [v, ov, iv] []) := by intro _; rfl)
    (hs : swapsWithSole [.Subscript (.Name x p) ix spos] e pos.line X.env = pure false := by rfl) (hw : swappedStores [.Subscript (.Name x p) ix spos] e X.env = pure none := by rfl)
    (h1 : (assignEach [.Subscript (.Name x p) ix spos] X.env).map (·.2) = [assign (.Subscript (.Name x p) ix spos) X.env] := by rfl) :
    PS X (.Assign [.Subscript (.Name x p) ix spos] e pos) (tS X.K ex W (sSetIx i f g)) :=
  PS.imp (ps_asg he (pg_sub (pe_var hN hv hd hcd) hg set_list ha) hs hw h1) fun En σ H ⟨c, G, s, r, h⟩ => soE r h fun d s1 G1 H1 v e1 r1 hv h1 => by
    cases z : look s1 i with
    | none =>
      simp only [z] at h1
      exact h1.elim
    | some d0 =>
      simp only [z] at h1
      obtain ⟨u, hu, _⟩ := r1.look z
      refine ⟨u, hu, soE r1 h1 fun j s2 G2 H2 v2 e2 r2 hv2 h2 => ?_⟩
      split at h2
      · rename_i ds k hds
        cases hv2
        obtain ⟨p', vs, ep, hd, r3, b3⟩ := r2.takeOwn hds
        rw [hu] at ep
        cases ep
        cases zz : ixN ds.length k with
        | none =>
          rw [zz] at h2
          exact h2.elim
        | some n =>
          rw [zz] at h2
          refine ⟨p', vs, k, n, rfl, rfl, b3.at_, by rw [hd.len]; exact zz, ?_⟩
          exact h2 σ G2 _ (Same.refl _) (r2.setOwn hds hu b3.at_ (hd.setI (hv.up e2) n))
      · exact h2.elim

/-! ### slices -/
abbrev FP := S → R (Option Int)
def tP (K : PySem.W.Frag) (ex : ExT) (W : WX) (f : FP) : TO := fun σ H Q => ∃ c G s, Rel K c G H σ s ∧ Post K ex W c G σ (fun o _ H' _ => Q o H') (f s)
def fNoP : FP := fun s => .ok none s
def fPt (f : FE) : FP := fun s => (f s).bind fun d s => match d with
  | .int i => .ok (some i) s
  | _ => .bad
theorem PO.imp {e : Option Expr} {t t' : TO} (h : PO X e t) (k : ∀ σ H Q, t' σ H Q → t σ H Q) : PO X e t' := ⟨fun pins s σ H Q I hw => h.run pins s σ H Q I (k σ H Q hw)⟩
theorem pNone : PO X none (tP X.K ex W fNoP) := PO.imp po_none fun σ H Q ⟨_, _, _, r, h⟩ => h.val' r
theorem pSome {e : Expr} {f : FE} (h : PE X e (tE X.K ex W f)) : PO X (some e) (tP X.K ex W (fPt f)) := PO.imp (po_some h) fun σ H Q ⟨_, _, _, r, h⟩ => inE r h fun d s1 G1 H1 v e1 r1 hv h1 => by
  cases d with
  | int i =>
    cases hv
    exact ⟨i, rfl, h1.val' r1⟩
  | _ => exact h1.elim
theorem inP {K : PySem.W.Frag} {c : Act} {G H : Hp} {σ : St} {s : S} {β : Type} {f : FP} {g : Option Int → S → R β} {M : β → Hp → Hp → S → Prop} {N : Option Int → Hp → Prop} (r : Rel K c G H σ s) (h : Post K ex W c G σ M ((f s).bind g))
    (next : ∀ o s' G' H', Same G G' → Rel K c G' H' σ s' → Post K ex W c G' σ M (g o s') → N o H') : tP K ex W f σ H N :=
  ⟨c, G, s, r, Post.seq h fun a s' G' H' e r' q => next a s' G' H' e r' q⟩
def cutG {α : Type} (xs : List α) (lo hi : Option Int) : List α := (xs.drop (HT.sIx xs.length 0 lo)).take (HT.sIx xs.length xs.length hi - HT.sIx xs.length 0 lo)
theorem cut_dp {K : PySem.W.Frag} {G : Hp} {vs : List V} {ds : List D} (h : DpAll K G vs ds) (lo hi : Option Int) : DpAll K G (cutV vs lo hi) (cutG ds lo hi) := by
  unfold cutV cutG
  rw [h.len]
  exact (h.dropI _).takeI _
/-- a list's slice: a new list -/
def fCut (f : FE) (lo hi : FP) : FA := fun s => (f s).bind fun d s => (lo s).bind fun l s => (hi s).bind fun u s => match d with
  | .list ds => .ok (cutG ds l u) s
  | _ => .bad
theorem oCut {e : Expr} {lo hi : Option Expr} {f : FE} {fl fh : FP} {pos p2 : Pos} (he : PE X e (tE X.K ex W f)) (hl : PO X lo (tP X.K ex W fl)) (hh : PO X hi (tP X.K ex W fh)) : PE X (.Subscript e (.Slice lo hi none p2) pos) (tO X.K ex W (fCut f fl fh)) :=
  PE.imp (pe_slice sl_list he hl hh) fun σ H Q ⟨_, _, _, r, h⟩ => inE r h fun d s1 G1 H1 v e1 r1 hv h1 => inP r1 h1 fun l s2 G2 H2 e2 r2 h2 => inP r2 h2 fun u s3 G3 H3 e3 r3 h3 => by
    cases d with
    | list ds =>
      cases (hv.up e2).up e3 with
      | lst q1 q2 =>
        refine ⟨_, _, rfl, r3.b.sub.seq q1, fun p hp => ?_⟩
        obtain ⟨r4, hf⟩ := r3.newOwn hp (cut_dp q2 l u)
        exact h3.val' r4 _ hf
    | _ => exact h3.elim
/-- a tuple's or a text's -/
def dCut (d : D) (l u : Option Int) : Option D := match d with
  | .tuple ds => some (.tuple (cutG ds l u))
  | .str z => if z.length ≤ sizeLine then some (.str (cutS z l u)) else none
  | _ => none
def fCutT (f : FE) (lo hi : FP) : FE := fun s => (f s).bind fun d s => (lo s).bind fun l s => (hi s).bind fun u s => R.of (dCut d l u) s
theorem cut_whole {α : Type} (xs : List α) (lo hi : Option Int) (h : HT.sIx xs.length 0 lo = 0 ∧ HT.sIx xs.length xs.length hi = xs.length) : cutG xs lo hi = xs := by
  unfold cutG
  rw [h.1, h.2]
  simp
theorem SlR.or {r r' : V → Option Int → Option Int → Hp → VK → Prop} (h : SlR X r) (h' : SlR X r') : SlR X (fun x lo hi H Q => r x lo hi H Q ∨ r' x lo hi H Q) := by
  intro pins s σ H x v vl vu lo hi sl Q I rx hs pl pu q
  rcases q with q | q
  · exact h pins s σ H x v vl vu lo hi sl Q I rx hs pl pu q
  · exact h' pins s σ H x v vl vu lo hi sl Q I rx hs pl pu q
theorem eCut {e : Expr} {lo hi : Option Expr} {f : FE} {fl fh : FP} {pos p2 : Pos} (he : PE X e (tE X.K ex W f)) (hl : PO X lo (tP X.K ex W fl)) (hh : PO X hi (tP X.K ex W fh)) : PE X (.Subscript e (.Slice lo hi none p2) pos) (tE X.K ex W (fCutT f fl fh)) :=
  PE.imp (pe_slice (sl_tupA.or sl_str) he hl hh) fun σ H Q ⟨_, _, _, r, h⟩ => inE r h fun d s1 G1 H1 v e1 r1 hv h1 => inP r1 h1 fun l s2 G2 H2 e2 r2 h2 => inP r2 h2 fun u s3 G3 H3 e3 r3 h3 => by
    have hv3 := (hv.up e2).up e3
    cases d with
    | tuple ds =>
      cases hv3 with
      | tup q1 q2 =>
        refine .inl ⟨_, _, rfl, sqT_mono r3.b.sub q1, fun w => ?_, fun _ p hp => ?_⟩
        · rw [q2.len] at w
          have h3 : Post X.K ex W _ G3 σ (fun d G' H' _ => ∀ v, Dp X.K G' v d → Q v H') (.ok (PyData.tuple (cutG ds l u)) s3) := h3
          rw [cut_whole ds l u w] at h3
          exact h3.val r3 (.tup q1 q2)
        · obtain ⟨sm, r4, hd⟩ := r3.newTup hp (cut_dp q2 l u)
          exact (Post.up h3 sm).val r4 hd
    | str z =>
      cases hv3
      have h3 : Post X.K ex W _ G3 σ (fun d G' H' _ => ∀ v, Dp X.K G' v d → Q v H') (R.of (if z.length ≤ sizeLine then some (PyData.str (cutS z l u)) else none) s3) := h3
      by_cases hz : z.length ≤ sizeLine
      · rw [if_pos hz] at h3
        exact .inr ⟨z, rfl, hz, h3.val r3 (.str _)⟩
      · rw [if_neg hz] at h3
        exact h3.elim
    | _ => exact h3.elim

/-! ### built-in functions of one argument -/
def fB1 (o : D → Option D) (f : FE) : FE := fun s => (f s).bind fun d s => R.of (o d) s
/-- a function of one value is told by o -/
def CaD (K : PySem.W.Frag) (r : List V → Hp → VK → Prop) (o : D → Option D) : Prop :=
  ∀ (c : Act) (G H : Hp) (σ : St) (s : S) (x : V) (a d : D) (Q : VK), Rel K c G H σ s → Dp K G x a → o a = some d → (∀ v G' H', Same G G' → Rel K c G' H' σ s → Dp K G' v d → Q v H') → r [x] H Q
theorem eB1 {e : Expr} {x : Str} {id : String} {r : List V → Hp → VK → Prop} {o : D → Option D} {f : FE} {p pos : Pos} (hc : CallR X (.builtin id) r) (hd : CaD X.K r o) (hm : X.mg x = none) (he : PE X e (tE X.K ex W f)) (hv : bootBuiltins x = some (.builtin id) := by decide +kernel)
    (hg : Gl X x := by rfl) (hn : x ≠ "__name__" := by decide) (hdb : (x == ("__debug__" : Str)) = false := by decide) (hs : starEach [e] X.env = (false, eval e X.env) :: starEach [] X.env := by rfl) (hpl : (backTo pos (starEach [] X.env)).any (·.1) = false := by rfl) :
    PE X (.Call (.Name x p) [e] [] pos) (tE X.K ex W (fB1 o f)) :=
  PE.imp (pe_callB hc hg hm hv (pa_cons he pa_nil hs) hn hdb hs hpl) fun σ H Q ⟨_, _, _, r, q⟩ => inE r q fun d s1 G1 H1 v e1 r1 hv q1 => by
    cases z : o d with
    | none => rw [z] at q1; exact q1.elim
    | some y =>
      rw [z] at q1
      exact hd _ G1 H1 σ s1 v d y Q r1 hv z fun w G2 H2 e2 r2 hw => (Post.up q1 e2).val r2 hw
theorem eT1 {e : Expr} {x : Str} {T : String} {r : List V → Hp → VK → Prop} {o : D → Option D} {f : FE} {p pos : Pos} (hc : CallR X (.type T) r) (hd : CaD X.K r o) (hm : X.mg x = none) (he : PE X e (tE X.K ex W f)) (hv : bootBuiltins x = some (.type T) := by decide +kernel)
    (hg : Gl X x := by rfl) (hn : x ≠ "__name__" := by decide) (hdb : (x == ("__debug__" : Str)) = false := by decide) (hs : starEach [e] X.env = (false, eval e X.env) :: starEach [] X.env := by rfl) (hpl : (backTo pos (starEach [] X.env)).any (·.1) = false := by rfl) :
    PE X (.Call (.Name x p) [e] [] pos) (tE X.K ex W (fB1 o f)) :=
  PE.imp (pe_callTy hc hg hm hv (pa_cons he pa_nil hs) hn hdb hs hpl) fun σ H Q ⟨_, _, _, r, q⟩ => inE r q fun d s1 G1 H1 v e1 r1 hv q1 => by
    cases z : o d with
    | none => rw [z] at q1; exact q1.elim
    | some y =>
      rw [z] at q1
      exact hd _ G1 H1 σ s1 v d y Q r1 hv z fun w G2 H2 e2 r2 hw => (Post.up q1 e2).val r2 hw
def intD : D → Option Int
  | .int i => some i
  | _ => none
def intsD : List D → Option (List Int)
  | [] => some []
  | d :: ds => (intD d).bind fun i => (intsD ds).map fun l => i :: l
def blD : D → Option Bool
  | .bool i => some i
  | _ => none
def blsD : List D → Option (List Bool)
  | [] => some []
  | d :: ds => (blD d).bind fun i => (blsD ds).map fun l => i :: l
theorem intsD_eq : ∀ {ds : List D} {ns : List Int}, intsD ds = some ns → ds = ns.map PyData.int
  | [], ns, h => by cases h; rfl
  | d :: ds, ns, h => by
    unfold intsD at h
    cases d with
    | int i =>
      cases z : intsD ds with
      | none => simp [intD, z] at h
      | some l =>
        simp [intD, z] at h
        subst h
        rw [intsD_eq z]
        rfl
    | _ => simp [intD] at h
theorem blsD_eq : ∀ {ds : List D} {ns : List Bool}, blsD ds = some ns → ds = ns.map PyData.bool
  | [], ns, h => by cases h; rfl
  | d :: ds, ns, h => by
    unfold blsD at h
    cases d with
    | bool i =>
      cases z : blsD ds with
      | none => simp [blD, z] at h
      | some l =>
        simp [blD, z] at h
        subst h
        rw [blsD_eq z]
        rfl
    | _ => simp [blD] at h
@[simp] theorem intsD_map (ns : List Int) : intsD (ns.map PyData.int) = some ns := by
  induction ns with
  | nil => rfl
  | cons n ns ih => simp [intsD, intD, ih]
@[simp] theorem blsD_map (ns : List Bool) : blsD (ns.map PyData.bool) = some ns := by
  induction ns with
  | nil => rfl
  | cons n ns ih => simp [blsD, blD, ih]
def dTup (d : D) : Option D := (items d).map .tuple
def dIntO : D → Option D
  | .int i => some (.int i)
  | .bool b => some (.int (if b then 1 else 0))
  | _ => none
def dSum : D → Option D
  | .list ds => (intsD ds).map fun ns => .int ns.sum
  | _ => none
def dAny : D → Option D
  | .list ds => (blsD ds).map fun ns => .bool (ns.any id)
  | _ => none
def dAll : D → Option D
  | .list ds => (blsD ds).map fun ns => .bool (ns.all id)
  | _ => none
def maxI : List Int → Int
  | [] => 0
  | x :: xs => xs.foldl (fun m y => if y > m then y else m) x
def minI : List Int → Int
  | [] => 0
  | x :: xs => xs.foldl (fun m y => if y < m then y else m) x
def dMax : D → Option D
  | .list ds => (intsD ds).bind fun ns => if 0 < ns.length then some (.int (maxI ns)) else none
  | _ => none
def dMin : D → Option D
  | .list ds => (intsD ds).bind fun ns => if 0 < ns.length then some (.int (minI ns)) else none
  | _ => none
theorem foldl_max (xs : List Int) : ∀ (m : Int), (xs.foldl (fun m y => if y > m then y else m) m = m ∨ xs.foldl (fun m y => if y > m then y else m) m ∈ xs) ∧ m ≤ xs.foldl (fun m y => if y > m then y else m) m ∧ ∀ y ∈ xs, y ≤ xs.foldl (fun m y => if y > m then y else m) m := by
  induction xs with
  | nil => intro m; simp
  | cons x xs ih =>
    intro m
    simp only [List.foldl_cons]
    obtain ⟨h1, h2, h3⟩ := ih (if x > m then x else m)
    have hle : m ≤ (if x > m then x else m) ∧ x ≤ (if x > m then x else m) := by split <;> omega
    refine ⟨?_, Int.le_trans hle.1 h2, fun y hy => ?_⟩
    · rcases h1 with h1 | h1
      · rw [h1]
        split
        · exact .inr (by simp)
        · exact .inl rfl
      · exact .inr (List.mem_cons_of_mem _ h1)
    · rcases List.mem_cons.mp hy with rfl | hy
      · exact Int.le_trans hle.2 h2
      · exact h3 y hy
theorem foldl_min (xs : List Int) : ∀ (m : Int), (xs.foldl (fun m y => if y < m then y else m) m = m ∨ xs.foldl (fun m y => if y < m then y else m) m ∈ xs) ∧ xs.foldl (fun m y => if y < m then y else m) m ≤ m ∧ ∀ y ∈ xs, xs.foldl (fun m y => if y < m then y else m) m ≤ y := by
  induction xs with
  | nil => intro m; simp
  | cons x xs ih =>
    intro m
    simp only [List.foldl_cons]
    obtain ⟨h1, h2, h3⟩ := ih (if x < m then x else m)
    have hle : (if x < m then x else m) ≤ m ∧ (if x < m then x else m) ≤ x := by split <;> omega
    refine ⟨?_, Int.le_trans h2 hle.1, fun y hy => ?_⟩
    · rcases h1 with h1 | h1
      · rw [h1]
        split
        · exact .inr (by simp)
        · exact .inl rfl
      · exact .inr (List.mem_cons_of_mem _ h1)
    · rcases List.mem_cons.mp hy with rfl | hy
      · exact Int.le_trans h2 hle.2
      · exact h3 y hy
theorem maxI_spec {ns : List Int} (h : 0 < ns.length) : maxI ns ∈ ns ∧ ∀ y ∈ ns, y ≤ maxI ns := by
  cases ns with
  | nil => simp at h
  | cons x xs =>
    obtain ⟨h1, h2, h3⟩ := foldl_max xs x
    refine ⟨?_, fun y hy => ?_⟩
    · rcases h1 with h1 | h1
      · exact List.mem_cons.mpr (.inl h1)
      · exact List.mem_cons_of_mem _ h1
    · rcases List.mem_cons.mp hy with rfl | hy
      · exact h2
      · exact h3 y hy
theorem minI_spec {ns : List Int} (h : 0 < ns.length) : minI ns ∈ ns ∧ ∀ y ∈ ns, minI ns ≤ y := by
  cases ns with
  | nil => simp at h
  | cons x xs =>
    obtain ⟨h1, h2, h3⟩ := foldl_min xs x
    refine ⟨?_, fun y hy => ?_⟩
    · rcases h1 with h1 | h1
      · exact List.mem_cons.mpr (.inl h1)
      · exact List.mem_cons_of_mem _ h1
    · rcases List.mem_cons.mp hy with rfl | hy
      · exact h2
      · exact h3 y hy
section
variable {K : PySem.W.Frag}
def rTupO (K : PySem.W.Frag) : List V → Hp → VK → Prop := fun xs H Q => ∃ p ys, xs = [.ref p] ∧ ((SqL K H p ys ∧ ∀ l, H l = none → Q (.ref l) (upd H l (.tup ys))) ∨ (SqT K H p ys ∧ Q (.ref p) H))
theorem cd_tup : CaD K (rTupO K) dTup := by
  intro c G H σ s x a d Q r hx e q
  cases a with
  | list ds =>
    cases e
    cases hx with
    | lst q1 q2 =>
      refine ⟨_, _, rfl, .inl ⟨r.b.sub.seq q1, fun p hp => ?_⟩⟩
      obtain ⟨sm, r2, hv⟩ := r.newTup hp q2
      exact q _ _ _ sm r2 hv
  | tuple ds =>
    cases e
    cases hx with
    | tup q1 q2 => exact ⟨_, _, rfl, .inr ⟨sqT_mono r.b.sub q1, q _ G H (Same.refl _) r (.tup q1 q2)⟩⟩
  | _ => cases e
def rIntO : List V → Hp → VK → Prop := fun xs H Q => (∃ i, xs = [.int i] ∧ Q (.int i) H) ∨ ∃ k, xs = [.bl k] ∧ Q (.int (if k then 1 else 0)) H
theorem cd_int : CaD K rIntO dIntO := by
  intro c G H σ s x a d Q r hx e q
  cases a with
  | int i =>
    cases e
    cases hx
    exact .inl ⟨i, rfl, q _ G H (Same.refl _) r (.int _)⟩
  | bool b =>
    cases e
    cases hx
    exact .inr ⟨b, rfl, q _ G H (Same.refl _) r (.int _)⟩
  | _ => cases e
theorem cd_sum : CaD K (rSum K) dSum := by
  intro c G H σ s x a d Q r hx e q
  cases a with
  | list ds =>
    have e : (intsD ds).map (fun ns => PyData.int ns.sum) = some d := e
    cases z : intsD ds with
    | none => rw [z] at e; cases e
    | some ns =>
      rw [z] at e
      cases e
      rw [intsD_eq z] at hx
      cases hx with
      | lst q1 q2 =>
        rw [q2.of_ints] at q1
        exact ⟨_, ns, rfl, r.b.sub.seq q1, q _ G H (Same.refl _) r (.int _)⟩
  | _ => cases e
theorem cd_any : CaD K (rAny K) dAny := by
  intro c G H σ s x a d Q r hx e q
  cases a with
  | list ds =>
    have e : (blsD ds).map (fun ns => PyData.bool (ns.any id)) = some d := e
    cases z : blsD ds with
    | none => rw [z] at e; cases e
    | some ns =>
      rw [z] at e
      cases e
      rw [blsD_eq z] at hx
      cases hx with
      | lst q1 q2 =>
        rw [q2.of_bls] at q1
        exact ⟨_, ns, rfl, r.b.sub.seq q1, q _ G H (Same.refl _) r (.bl _)⟩
  | _ => cases e
theorem cd_all : CaD K (rAll K) dAll := by
  intro c G H σ s x a d Q r hx e q
  cases a with
  | list ds =>
    have e : (blsD ds).map (fun ns => PyData.bool (ns.all id)) = some d := e
    cases z : blsD ds with
    | none => rw [z] at e; cases e
    | some ns =>
      rw [z] at e
      cases e
      rw [blsD_eq z] at hx
      cases hx with
      | lst q1 q2 =>
        rw [q2.of_bls] at q1
        exact ⟨_, ns, rfl, r.b.sub.seq q1, q _ G H (Same.refl _) r (.bl _)⟩
  | _ => cases e
theorem cd_max : CaD K (rMax K) dMax := by
  intro c G H σ s x a d Q r hx e q
  cases a with
  | list ds =>
    have e : ((intsD ds).bind fun ns => if 0 < ns.length then some (PyData.int (maxI ns)) else none) = some d := e
    cases z : intsD ds with
    | none => rw [z] at e; cases e
    | some ns =>
      rw [z] at e
      simp only [Option.bind_some] at e
      by_cases hl : 0 < ns.length
      · rw [if_pos hl] at e
        cases e
        rw [intsD_eq z] at hx
        cases hx with
        | lst q1 q2 =>
          rw [q2.of_ints] at q1
          refine ⟨_, ns, rfl, r.b.sub.seq q1, hl, fun m h1 h2 => ?_⟩
          obtain ⟨k1, k2⟩ := maxI_spec hl
          have : m = maxI ns := Int.le_antisymm (k2 m h1) (h2 _ k1)
          subst this
          exact q _ G H (Same.refl _) r (.int _)
      · rw [if_neg hl] at e
        cases e
  | _ => cases e
theorem cd_min : CaD K (rMin K) dMin := by
  intro c G H σ s x a d Q r hx e q
  cases a with
  | list ds =>
    have e : ((intsD ds).bind fun ns => if 0 < ns.length then some (PyData.int (minI ns)) else none) = some d := e
    cases z : intsD ds with
    | none => rw [z] at e; cases e
    | some ns =>
      rw [z] at e
      simp only [Option.bind_some] at e
      by_cases hl : 0 < ns.length
      · rw [if_pos hl] at e
        cases e
        rw [intsD_eq z] at hx
        cases hx with
        | lst q1 q2 =>
          rw [q2.of_ints] at q1
          refine ⟨_, ns, rfl, r.b.sub.seq q1, hl, fun m h1 h2 => ?_⟩
          obtain ⟨k1, k2⟩ := minI_spec hl
          have : m = minI ns := Int.le_antisymm (h2 _ k1) (k2 m h1)
          subst this
          exact q _ G H (Same.refl _) r (.int _)
      · rw [if_neg hl] at e
        cases e
  | _ => cases e
end
section
variable {e : Expr} {f : FE} {p pos : Pos}
theorem eTupF (hm : X.mg "tuple" = none) (he : PE X e (tE X.K ex W f)) (hg : Gl X "tuple" := by rfl) (hs : starEach [e] X.env = (false, eval e X.env) :: starEach [] X.env := by rfl) (hpl : (backTo pos (starEach [] X.env)).any (·.1) = false := by rfl) :
    PE X (.Call (.Name "tuple" p) [e] [] pos) (tE X.K ex W (fB1 dTup f)) := eT1 (r := rTupO X.K) call_tuple_of cd_tup hm he (hg := hg) (hs := hs) (hpl := hpl)
theorem eIntF (hm : X.mg "int" = none) (he : PE X e (tE X.K ex W f)) (hg : Gl X "int" := by rfl) (hs : starEach [e] X.env = (false, eval e X.env) :: starEach [] X.env := by rfl) (hpl : (backTo pos (starEach [] X.env)).any (·.1) = false := by rfl) :
    PE X (.Call (.Name "int" p) [e] [] pos) (tE X.K ex W (fB1 dIntO f)) := eT1 (r := rIntO) call_int1 cd_int hm he (hg := hg) (hs := hs) (hpl := hpl)
theorem eSumF (hc : X.calm = true) (hm : X.mg "sum" = none) (he : PE X e (tE X.K ex W f)) (hg : Gl X "sum" := by rfl) (hs : starEach [e] X.env = (false, eval e X.env) :: starEach [] X.env := by rfl) (hpl : (backTo pos (starEach [] X.env)).any (·.1) = false := by rfl) :
    PE X (.Call (.Name "sum" p) [e] [] pos) (tE X.K ex W (fB1 dSum f)) := eB1 (cr_sum hc) cd_sum hm he (hg := hg) (hs := hs) (hpl := hpl)
theorem eAnyF (hc : X.calm = true) (hm : X.mg "any" = none) (he : PE X e (tE X.K ex W f)) (hg : Gl X "any" := by rfl) (hs : starEach [e] X.env = (false, eval e X.env) :: starEach [] X.env := by rfl) (hpl : (backTo pos (starEach [] X.env)).any (·.1) = false := by rfl) :
    PE X (.Call (.Name "any" p) [e] [] pos) (tE X.K ex W (fB1 dAny f)) := eB1 (cr_any hc) cd_any hm he (hg := hg) (hs := hs) (hpl := hpl)
theorem eAllF (hc : X.calm = true) (hm : X.mg "all" = none) (he : PE X e (tE X.K ex W f)) (hg : Gl X "all" := by rfl) (hs : starEach [e] X.env = (false, eval e X.env) :: starEach [] X.env := by rfl) (hpl : (backTo pos (starEach [] X.env)).any (·.1) = false := by rfl) :
    PE X (.Call (.Name "all" p) [e] [] pos) (tE X.K ex W (fB1 dAll f)) := eB1 (cr_all hc) cd_all hm he (hg := hg) (hs := hs) (hpl := hpl)
theorem eMaxF (hc : X.calm = true) (hm : X.mg "max" = none) (he : PE X e (tE X.K ex W f)) (hg : Gl X "max" := by rfl) (hs : starEach [e] X.env = (false, eval e X.env) :: starEach [] X.env := by rfl) (hpl : (backTo pos (starEach [] X.env)).any (·.1) = false := by rfl) :
    PE X (.Call (.Name "max" p) [e] [] pos) (tE X.K ex W (fB1 dMax f)) := eB1 (cr_max hc) cd_max hm he (hg := hg) (hs := hs) (hpl := hpl)
theorem eMinF (hc : X.calm = true) (hm : X.mg "min" = none) (he : PE X e (tE X.K ex W f)) (hg : Gl X "min" := by rfl) (hs : starEach [e] X.env = (false, eval e X.env) :: starEach [] X.env := by rfl) (hpl : (backTo pos (starEach [] X.env)).any (·.1) = false := by rfl) :
    PE X (.Call (.Name "min" p) [e] [] pos) (tE X.K ex W (fB1 dMin f)) := eB1 (cr_min hc) cd_min hm he (hg := hg) (hs := hs) (hpl := hpl)
end

/-! ### functions that give a new list -/
def fListF (f : FE) : FA := fun s => (f s).bind fun d s => R.of (items d) s
theorem oListF {e : Expr} {f : FE} {p pos : Pos} (hm : X.mg "list" = none) (he : PE X e (tE X.K ex W f)) (hg : Gl X "list" := by rfl) (hs : starEach [e] X.env = (false, eval e X.env) :: starEach [] X.env := by rfl) (hpl : (backTo pos (starEach [] X.env)).any (·.1) = false := by rfl) :
    PE X (.Call (.Name "list" p) [e] [] pos) (tO X.K ex W (fListF f)) :=
  PE.imp (pe_callTy call_list_of hg hm (by decide +kernel) (pa_cons he pa_nil hs) (he := hs) (hpl := hpl)) fun σ H Q ⟨_, _, _, r, q⟩ => inE r q fun d s1 G1 H1 v e1 r1 hv q1 => by
    cases d with
    | list ds =>
      cases hv with
      | lst h1 h2 =>
        refine ⟨_, _, rfl, .inl (r1.b.sub.seq h1), fun l hl => ?_⟩
        obtain ⟨r2, hf⟩ := r1.newOwn hl h2
        exact q1.val' r2 _ hf
    | tuple ds =>
      cases hv with
      | tup h1 h2 =>
        refine ⟨_, _, rfl, .inr (sqT_mono r1.b.sub h1), fun l hl => ?_⟩
        obtain ⟨r2, hf⟩ := r1.newOwn hl h2
        exact q1.val' r2 _ hf
    | _ => exact q1.elim
/-- sorted of ints -/
def insI (x : Int) : List Int → List Int
  | [] => [x]
  | y :: ys => if x ≤ y then x :: y :: ys else y :: insI x ys
def sortI : List Int → List Int
  | [] => []
  | x :: xs => insI x (sortI xs)
theorem insI_perm (x : Int) : ∀ ys : List Int, (insI x ys).Perm (x :: ys)
  | [] => .refl _
  | y :: ys => by
    unfold insI
    split
    · exact .refl _
    · exact ((insI_perm x ys).cons y).trans (.swap x y ys)
theorem sortI_perm : ∀ xs : List Int, (sortI xs).Perm xs
  | [] => .refl _
  | x :: xs => (insI_perm x _).trans ((sortI_perm xs).cons x)
theorem insI_sorted (x : Int) : ∀ {ys : List Int}, ys.Pairwise (· ≤ ·) → (insI x ys).Pairwise (· ≤ ·)
  | [], _ => by simp [insI]
  | y :: ys, h => by
    unfold insI
    have h' := List.pairwise_cons.mp h
    split
    · rename_i hxy
      refine List.pairwise_cons.mpr ⟨fun z hz => ?_, h⟩
      rcases List.mem_cons.mp hz with rfl | hz
      · exact hxy
      · exact Int.le_trans hxy (h'.1 z hz)
    · rename_i hxy
      refine List.pairwise_cons.mpr ⟨fun z hz => ?_, insI_sorted x h'.2⟩
      have := (insI_perm x ys).mem_iff.mp hz
      rcases List.mem_cons.mp this with rfl | hz
      · omega
      · exact h'.1 z hz
theorem sortI_sorted : ∀ xs : List Int, (sortI xs).Pairwise (· ≤ ·)
  | [] => .nil
  | x :: xs => insI_sorted x (sortI_sorted xs)
theorem sorted_unique : ∀ {xs ys : List Int}, xs.Perm ys → xs.Pairwise (· ≤ ·) → ys.Pairwise (· ≤ ·) → xs = ys
  | [], ys, p, _, _ => by rw [List.nil_perm.mp p]
  | x :: xs, [], p, _, _ => by simp at p
  | x :: xs, y :: ys, p, h1, h2 => by
    have a := List.pairwise_cons.mp h1
    have b := List.pairwise_cons.mp h2
    have e : x = y := by
      have m1 : x ∈ y :: ys := p.mem_iff.mp (by simp)
      have m2 : y ∈ x :: xs := p.mem_iff.mpr (by simp)
      rcases List.mem_cons.mp m1 with e | m1
      · exact e
      · rcases List.mem_cons.mp m2 with e | m2
        · exact e.symm
        · exact Int.le_antisymm (a.1 y m2) (b.1 x m1)
    subst e
    rw [sorted_unique (List.perm_cons x |>.mp p) a.2 b.2]
def fSortI (f : FE) : FA := fun s => (f s).bind fun d s => match d with
  | .list ds => R.of ((intsD ds).map fun ns => (sortI ns).map PyData.int) s
  | _ => .bad
theorem oSortI {e : Expr} {f : FE} {p pos : Pos} (hm : X.mg "sorted" = none) (he : PE X e (tE X.K ex W f)) (hg : Gl X "sorted" := by rfl) (hs : starEach [e] X.env = (false, eval e X.env) :: starEach [] X.env := by rfl) (hpl : (backTo pos (starEach [] X.env)).any (·.1) = false := by rfl) :
    PE X (.Call (.Name "sorted" p) [e] [] pos) (tO X.K ex W (fSortI f)) :=
  PE.imp (pe_callB cr_sortedI hg hm (by decide +kernel) (pa_cons he pa_nil hs) (he := hs) (hpl := hpl)) fun σ H Q ⟨_, _, _, r, q⟩ => inE r q fun d s1 G1 H1 v e1 r1 hv q1 => by
    cases d with
    | list ds =>
      cases z : intsD ds with
      | none =>
        simp only [z] at q1
        exact q1.elim
      | some ns =>
        simp only [z] at q1
        rw [intsD_eq z] at hv
        cases hv with
        | lst h1 h2 =>
          rw [h2.of_ints] at h1
          refine ⟨_, ns, rfl, r1.b.sub.seq h1, fun ns' l pm so hl => ?_⟩
          have e : ns' = sortI ns := sorted_unique (pm.trans (sortI_perm ns).symm) so (sortI_sorted ns)
          subst e
          obtain ⟨r2, hf⟩ := r1.newOwn hl (DpAll.ints _)
          exact q1.val' r2 _ hf
    | _ => exact q1.elim
/-- list(range(a, b)) -/
def fLR2 (f g : FE) : FA := fun s => (f s).bind fun a s => (g s).bind fun b s => match a, b with
  | .int i, .int j => if -(2 ^ 62) ≤ i ∧ i < 2 ^ 62 ∧ -(2 ^ 62) ≤ j ∧ j < 2 ^ 62 ∧ (j - i).toNat ≤ 2 ^ 24 then .ok (upTo i (j - i).toNat) s else .bad
  | _, _ => .bad
theorem rg_dp {K : PySem.W.Frag} {G : Hp} (i j : Int) : DpAll K G (rgV i j) (upTo i (j - i).toNat) := by
  unfold rgV upTo
  have : ∀ l : List Nat, DpAll K G (l.map fun n => V.int (i + (n : Nat))) (l.map fun (n : Nat) => PyData.int (i + n)) := fun l => by
    induction l with
    | nil => exact .nil
    | cons n l ih => exact .cons (.int _) ih
  exact this _
theorem oLR2 {a b : Expr} {f g : FE} {p p' pos pos' : Pos} (hc : X.calm = true) (hm : X.mg "list" = none) (hm' : X.mg "range" = none) (ha : PE X a (tE X.K ex W f)) (hb : PE X b (tE X.K ex W g)) (hg : Gl X "list" := by rfl) (hg' : Gl X "range" := by rfl)
    (na : starEach [a, b] X.env = (false, eval a X.env) :: starEach [b] X.env := by rfl) (nb : starEach [b] X.env = (false, eval b X.env) :: starEach [] X.env := by rfl)
    (hp : (backTo pos' (starEach [b] X.env)).any (·.1) = false := by rfl)
    (na2 : starEach [.Call (.Name "range" p') [a, b] [] pos'] X.env = (false, eval (.Call (.Name "range" p') [a, b] [] pos') X.env) :: starEach [] X.env := by rfl) :
    PE X (.Call (.Name "list" p) [.Call (.Name "range" p') [a, b] [] pos'] [] pos) (tO X.K ex W (fLR2 f g)) :=
  PE.imp (pe_listRg hc hg hm (prg_2 hg' hm' ha hb na nb hp) na2) fun σ H Q ⟨_, _, _, r, q⟩ => inE r q fun d s1 G1 H1 v e1 r1 hv q1 => inE r1 q1 fun d' s2 G2 H2 v' e2 r2 hv' q2 => by
    cases d with
    | int i =>
      cases d' with
      | int j =>
        cases hv
        cases hv'
        by_cases hj : -(2 ^ 62) ≤ i ∧ i < 2 ^ 62 ∧ -(2 ^ 62) ≤ j ∧ j < 2 ^ 62 ∧ (j - i).toNat ≤ 2 ^ 24
        · have q2 : Post X.K ex W _ G2 σ _ (if -(2 ^ 62) ≤ i ∧ i < 2 ^ 62 ∧ -(2 ^ 62) ≤ j ∧ j < 2 ^ 62 ∧ (j - i).toNat ≤ 2 ^ 24 then R.ok (upTo i (j - i).toNat) s2 else .bad) := q2
          rw [if_pos hj] at q2
          refine ⟨i, j, rfl, rfl, hj, fun l hl => ?_⟩
          obtain ⟨r3, hf⟩ := r2.newOwn hl (rg_dp i j)
          exact q2.val' r3 _ hf
        · have q2 : Post X.K ex W _ G2 σ _ (if -(2 ^ 62) ≤ i ∧ i < 2 ^ 62 ∧ -(2 ^ 62) ≤ j ∧ j < 2 ^ 62 ∧ (j - i).toNat ≤ 2 ^ 24 then R.ok (upTo i (j - i).toNat) s2 else .bad) := q2
          rw [if_neg hj] at q2
          exact q2.elim
      | _ => exact q2.elim
    | _ => exact q2.elim
end
end PD
/-! PD8: the draw list; a law. -/
namespace PD
open PySem PySem.Spec L2
open PyProof.Rows hiding St
variable [WI]

/-- the draw list's n-th thing: the script, 0, the number of draws -/
def hdAt (n : Int) (w : Wst) : Option D :=
  if n = 0 then some (.list (w.ns.map PyData.int)) else if n = 1 then some (.int 0) else if n = 2 then some (.int w.k) else none
def fHd (i : Nat) (n : Int) : FE := fun s => match s.ρ[i]? with
  | some (some .hdl) => R.of (hdAt n s.w) s
  | _ => .bad
/-- name[2] = e, the name the draw list -/
def sHd (i : Nat) (f : FE) : FO := fun s => (f s).stm fun d s => match s.ρ[i]?, d with
  | some (some .hdl), .int k => .nx ⟨s.ρ, ⟨s.w.ns, k⟩⟩
  | _, _ => .bad
section
variable {K : PySem.W.Frag} {c : Act} {G H : Hp} {σ : St} {s : S}
theorem Rel.setK (r : Rel K c G H σ s) (k : Int) : Rel K c G (upd H c.wa (.lst [.ref c.sc, .int 0, .int k])) σ ⟨s.ρ, ⟨s.w.ns, k⟩⟩ := by
  refine ⟨⟨fun a u e => ?_, upd_same, r.b.wf, r.b.scr, r.b.g0, fun a u e n => ?_, r.b.n0, fun q hq => let ⟨t, g, h⟩ := r.b.tb q hq; ⟨TabS.set t r.b.wl rfl, g, h⟩, r.b.ng⟩, r.len, fun i e q => ?_, r.sep⟩
  · rw [upd_ne (ne_of_none e r.b.wf)]
    exact r.b.sub a u e
  · rw [upd_ne n]
    exact r.b.h0 a u e n
  · obtain ⟨v, hv, he⟩ := r.slot i e q
    refine ⟨v, hv, he.up (Same.refl _) fun p vs h1 h2 _ h4 _ => ?_⟩
    rw [upd_ne h4]
    exact ⟨h1, h2⟩
end
section
variable {X : Cx} {ex : ExT} {W : WX}
theorem eHd (i : Nat) {n : Int} {x : Str} {p q pos : Pos} {j : Nat} (hN : X.N[i]? = some x := by rfl) (hv : Vis X.env.scope x := by first | exact Or.inl rfl | exact Or.inr (Or.inl rfl) | exact Or.inr (Or.inr rfl))
    (hd : (x == ("__debug__" : Str)) = false := by decide) (hcd : (x == ("__classdict__" : Str)) = false := by decide) (hs : PlainIx (.Constant (.int n) j q) := by exact fun _ _ => rfl) :
    PE X (.Subscript (.Name x p) (.Constant (.int n) j q) pos) (tE X.K ex W (fHd i n)) :=
  PE.imp (pe_ix ix_list (pe_var hN hv hd hcd) pe_int hs) fun σ H Q ⟨c, G, s, r, h⟩ => by
    have h : Post X.K ex W c G σ (fun d G' H' _ => ∀ v, Dp X.K G' v d → Q v H') (match s.ρ[i]? with
      | some (some .hdl) => R.of (hdAt n s.w) s
      | _ => .bad) := h
    split at h
    · rename_i hh
      obtain ⟨v, hv, he⟩ := r.slot i _ hh
      have he : v = .ref c.wa := he
      subst he
      refine ⟨_, hv, c.wa, [V.ref c.sc, V.int 0, V.int s.w.k], n, ?_⟩
      by_cases h0 : n = 0
      · subst h0
        have h : Post X.K ex W c G σ (fun d G' H' _ => ∀ v, Dp X.K G' v d → Q v H') (.ok (PyData.list (s.w.ns.map PyData.int)) s) := h
        exact ⟨.ref c.sc, rfl, rfl, SqL.of r.b.wl, rfl, h.val r (.lst r.b.scr (DpAll.ints _))⟩
      · by_cases h1 : n = 1
        · subst h1
          have h : Post X.K ex W c G σ (fun d G' H' _ => ∀ v, Dp X.K G' v d → Q v H') (.ok (PyData.int 0) s) := h
          exact ⟨.int 0, rfl, rfl, SqL.of r.b.wl, rfl, h.val r (.int _)⟩
        · by_cases h2 : n = 2
          · subst h2
            have h : Post X.K ex W c G σ (fun d G' H' _ => ∀ v, Dp X.K G' v d → Q v H') (.ok (PyData.int s.w.k) s) := h
            exact ⟨.int s.w.k, rfl, rfl, SqL.of r.b.wl, rfl, h.val r (.int _)⟩
          · unfold hdAt at h
            rw [if_neg h0, if_neg h1, if_neg h2] at h
            exact h.elim
    · exact h.elim
theorem kHd (i : Nat) {x : Str} {e : Expr} {f : FE} {p q spos pos : Pos} {j : Nat} (he : PE X e (tE X.K ex W f)) (hN : X.N[i]? = some x := by rfl) (hv : Vis X.env.scope x := by first | exact Or.inl rfl | exact Or.inr (Or.inl rfl) | exact Or.inr (Or.inr rfl))
    (hd : (x == ("__debug__" : Str)) = false := by decide) (hcd : (x == ("__classdict__" : Str)) = false := by decide)
    (ha : ∀ v, assign (.Subscript (.Name x p) (.Constant (.int 2) j q) spos) X.env v = (do
      let ov ← holding [v] (eval (.Name x p) X.env)
      let iv ← holding [v, ov] (eval (.Constant (.int 2) j q) X.env)
      standAt spos
      holding [v, ov, iv] (setItem ov iv v)
      release [v, ov, iv] []) := by intro _; rfl)
    (hs : swapsWithSole [.Subscript (.Name x p) (.Constant (.int 2) j q) spos] e pos.line X.env = pure false := by rfl) (hw : swappedStores [.Subscript (.Name x p) (.Constant (.int 2) j q) spos] e X.env = pure none := by rfl)
    (h1 : (assignEach [.Subscript (.Name x p) (.Constant (.int 2) j q) spos] X.env).map (·.2) = [assign (.Subscript (.Name x p) (.Constant (.int 2) j q) spos) X.env] := by rfl) :
    PS X (.Assign [.Subscript (.Name x p) (.Constant (.int 2) j q) spos] e pos) (tS X.K ex W (sHd i f)) :=
  PS.imp (ps_asg he (pg_sub (pe_var hN hv hd hcd) pe_int set_list ha) hs hw h1) fun En σ H ⟨c, G, s, r, h⟩ => soE r h fun d s1 G1 H1 v e1 r1 hv h1 => by
    split at h1
    · rename_i k hh
      cases hv
      obtain ⟨u, hu, he⟩ := r1.slot i _ hh
      have he : u = .ref c.wa := he
      subst he
      exact ⟨_, hu, c.wa, _, 2, 2, rfl, rfl, r1.b.wl, rfl, h1 σ G1 _ (Same.refl _) (r1.setK k)⟩
    · exact h1.elim
end

/-! ### a law -/
def spLaw (K : PySem.W.Frag) : Sp := fun vs H Q _ => ∃ (a : Addr) (ns : List Int), vs = [.ref a] ∧ SqL K H a (ns.map V.int) ∧ ns.length ≤ 63 ∧ ∀ H', Q (.bl true) H'
/-- the draw list made: [script[:63], 0, 0] -/
def tMkD (K : PySem.W.Frag) : TS := tAsg (tLst (tCons (tSl (rSlL K) (tVar 0) tNoPart (tPart (tC (.int 63)))) (tCons (tC (.int 0)) (tCons (tC (.int 0)) tNil)))) (gName 1)
def lawS (N : Nat) (ns : List Int) : S := ⟨none :: some .hdl :: List.replicate (N - 2) none, ⟨ns, 0⟩⟩
theorem kMkD {X : Cx} {x y : Str} {a1 a2 a3 a4 a5 a6 a7 a8 a9 : Pos} {j1 j2 j3 : Nat} (hN : X.N.Nodup) (hx : X.N[0]? = some x := by rfl) (hy : X.N[1]? = some y := by rfl) (hv : Vis X.env.scope x := by first | exact Or.inl rfl | exact Or.inr (Or.inl rfl) | exact Or.inr (Or.inr rfl))
    (hl : Loc X.env.scope y := by first | exact Or.inl rfl | exact Or.inr rfl) (hd : (x == ("__debug__" : Str)) = false := by decide) (hcd : (x == ("__classdict__" : Str)) = false := by decide) (hf : X.fn y = true ∨ X.env.scope.names.lookup y = some .local := by first | exact .inl rfl | exact .inr rfl)
    (hs : swapsWith (.List [.Subscript (.Name x a1) (.Slice none (some (.Constant (.int 63) j1 a2)) none a3) a4, .Constant (.int 0) j2 a5, .Constant (.int 0) j3 a6] a7) (some (.Name y a8)) a9.line X.env = pure false := by rfl)
    (s1 : starEach [.Subscript (.Name x a1) (.Slice none (some (.Constant (.int 63) j1 a2)) none a3) a4, .Constant (.int 0) j2 a5, .Constant (.int 0) j3 a6] X.env = (false, eval (.Subscript (.Name x a1) (.Slice none (some (.Constant (.int 63) j1 a2)) none a3) a4) X.env) :: starEach [.Constant (.int 0) j2 a5, .Constant (.int 0) j3 a6] X.env := by rfl)
    (s2 : starEach [.Constant (.int 0) j2 a5, .Constant (.int 0) j3 a6] X.env = (false, eval (.Constant (.int 0) j2 a5) X.env) :: starEach [.Constant (.int 0) j3 a6] X.env := by rfl)
    (s3 : starEach [.Constant (.int 0) j3 a6] X.env = (false, eval (.Constant (.int 0) j3 a6) X.env) :: starEach [] X.env := by rfl) :
    PS X (.Assign [.Name y a8] (.List [.Subscript (.Name x a1) (.Slice none (some (.Constant (.int 63) j1 a2)) none a3) a4, .Constant (.int 0) j2 a5, .Constant (.int 0) j3 a6] a7) a9) (tMkD X.K) :=
  ps_set hN hy hl (pe_lst (pa_cons (pe_slice sl_list (pe_var hx hv hd hcd) po_none (po_some pe_int)) (pa_cons pe_int (pa_cons pe_int pa_nil s3) s2) s1)) hs hf
section
variable {P : Program} {w : World} {K : PySem.W.Frag} {mg : Str → Option Value} {base : Heap} {ex : ExT}
theorem cut63 {ns : List Int} (h : ns.length ≤ 63) : cutV (ns.map V.int) none (some 63) = ns.map V.int := by
  unfold cutV
  rw [HT.sIx_none, show HT.sIx (ns.map V.int).length (ns.map V.int).length (some 63) = min 63 (ns.map V.int).length from HT.sIx_nat _ _ 63, List.length_map, Nat.min_eq_right h, Nat.sub_zero, List.drop_zero]
  exact List.take_of_length_le (by rw [List.length_map]; exact Nat.le_refl _)
theorem lawD {x : Str} {st st1 : Stmt} {rest : List Stmt} {f : Addr} {fd : FuncData} {N : List Str} {k : Nat} {fb : FO} (F : Fun K "law" "law" st f fd) (Sc : FnScope N [x] (defScope st)) (hN : 2 ≤ N.length) (hbody : defBody st = st1 :: rest)
    (b1 : ∀ (cdv : Value) (A : Around) (outer : List Env) (s : Shared) (H : Hp) (E : XK), PS (cxOf (L2.CX P w) P w K mg base N "law" (defScope st) f cdv A outer s H E) st1 (tMkD K))
    (body : ∀ (cdv : Value) (A : Around) (outer : List Env) (s : Shared) (H : Hp) (E : XK), RoomG k (A.deeper (envOfC "law" (defScope st) s.heap.objs.size f cdv)) →
      PSs (cxOf (L2.CX P w) P w K mg base N "law" (defScope st) f cdv A outer s H E) rest (tS K ex (fun cls d _ H => E cls d H) fb))
    (good : ∀ ns : List Int, ns.length ≤ 63 → ∃ s', fb (lawS N.length ns) = .rt (.bool true) s') : FnG P w K mg base (L2.CX P w) (k + 1) f fd [x] (spLaw K) := by
  refine okG F Sc (fun vs H Q E hh => ?_) (fun cdv A outer s H vs Q E hr hh => ⟨_, by rw [hbody]; exact pss_cons (b1 cdv A outer s H E) (body cdv A outer s H E hr), ?_⟩)
  · obtain ⟨a, ns, rfl, _⟩ := hh
    rfl
  · obtain ⟨a, ns, rfl, hS, hlen, q⟩ := hh
    have e0 : L2.start N [V.ref a] = some (V.ref a) :: List.replicate (N.length - 1) none := rfl
    rw [e0]
    obtain ⟨m, hm⟩ : ∃ m, N.length = m + 2 := ⟨N.length - 2, by omega⟩
    rw [show N.length - 1 = m + 1 by omega, List.replicate_succ]
    refine ⟨.ref a, rfl, 63, rfl, a, ns.map V.int, rfl, hS, fun p1 hp1 => ?_⟩
    rw [cut63 hlen]
    refine ⟨by show 3 ≤ sizeLine; decide, fun p2 hp2 => ?_⟩
    have ne : p2 ≠ p1 := fun z => by
      rw [z, upd_same] at hp2
      cases hp2
    obtain ⟨s', hg⟩ := good ns hlen
    rw [hm] at hg
    refine ⟨⟨p2, p1, upd (fun _ => none) p1 (.lst (ns.map V.int)), upd (upd H p1 (.lst (ns.map V.int))) p2 (.lst [.ref p1, .int 0, .int 0]), 0, []⟩, upd (fun _ => none) p1 (.lst (ns.map V.int)), lawS (m + 2) ns, ⟨⟨?_, upd_same, ?_, SqL.of upd_same, Same.refl _, fun _ _ e _ => e, fun _ _ _ _ n => n, (fun _ h => nomatch h), fun b ps z => by
      by_cases hb : b = p1
      · rw [hb, upd_same] at z
        cases z
      · rw [upd_ne hb] at z
        cases z⟩, ?_, ?_, ?_⟩, ?_⟩
    · intro b o e
      by_cases hb : b = p1
      · subst hb
        rw [upd_same] at e
        rw [upd_ne (Ne.symm ne), upd_same]
        exact e
      · rw [upd_ne hb] at e
        cases e
    · show upd (fun _ => none) p1 _ p2 = none
      rw [upd_ne ne]
    · simp [lawS]
    · intro i e h
      match i, h with
      | 0, h => simp [lawS] at h
      | 1, h =>
        have h : Ent.hdl = e := by simpa [lawS] using h
        subst h
        exact ⟨.ref p2, rfl, rfl⟩
      | i + 2, h =>
        have h : (List.replicate m (none : Option Ent))[i]? = some (some e) := h
        have := List.mem_of_getElem? h
        rw [List.mem_replicate] at this
        cases this.2
    · intro i j v n ⟨e, h, bb⟩
      match i, h with
      | 0, h => simp [lawS] at h
      | 1, h =>
        have h : Ent.hdl = e := by simpa [lawS] using h
        rw [← h] at bb
        cases bb
      | i + 2, h =>
        have h : (List.replicate m (none : Option Ent))[i]? = some (some e) := h
        have := List.mem_of_getElem? h
        rw [List.mem_replicate] at this
        cases this.2
    · rw [hg]
      intro v σ' G' H' _ _ hv
      cases hv
      exact q H'
end
end PD
/-! PD9: rules by the kind of the values; names compared unfrozen; list + list; xs[::-1]; sorted(set(xs)). -/
namespace PD
open PySem PySem.Spec L2
open PyProof.Rows hiding St
variable [WI]

def dAddX (a b : D) : Option D := (dAddI a b).or ((dAddS a b).or (dAddT a b))
section
variable {X : Cx} {ex : ExT} {W : WX} {a b : Expr} {f g : FE} {pos : Pos}
theorem eAddX (hf : PE X a (tE X.K ex W f)) (hg : PE X b (tE X.K ex W g)) : PE X (.BinOp a .Add b pos) (tE X.K ex W (fBin dAddX f g)) :=
  eBin (op_add.or (OpR.or (r := rAddS) op_add_str op_catA)) (od_addI.or (od_addS.or od_addT)) hf hg
def dCutX (d : D) (l u : Option Int) : Option D := match d with
  | .list ds => some (.list (cutG ds l u))
  | d => dCut d l u
def fCutX (f : FE) (lo hi : FP) : FE := fun s => (f s).bind fun d s => (lo s).bind fun l s => (hi s).bind fun u s => R.of (dCutX d l u) s
theorem eCutX {e : Expr} {lo hi : Option Expr} {f : FE} {fl fh : FP} {pos p2 : Pos} (he : PE X e (tE X.K ex W f)) (hl : PO X lo (tP X.K ex W fl)) (hh : PO X hi (tP X.K ex W fh)) : PE X (.Subscript e (.Slice lo hi none p2) pos) (tE X.K ex W (fCutX f fl fh)) :=
  PE.imp (pe_slice (sl_list.or (sl_tupA.or sl_str)) he hl hh) fun σ H Q ⟨_, _, _, r, h⟩ => inE r h fun d s1 G1 H1 v e1 r1 hv h1 => inP r1 h1 fun l s2 G2 H2 e2 r2 h2 => inP r2 h2 fun u s3 G3 H3 e3 r3 h3 => by
    have hv3 := (hv.up e2).up e3
    cases d with
    | list ds =>
      cases hv3 with
      | lst q1 q2 =>
        refine .inl ⟨_, _, rfl, r3.b.sub.seq q1, fun p hp => ?_⟩
        obtain ⟨sm, r4, hd⟩ := r3.newLst hp (cut_dp q2 l u)
        exact (Post.up h3 sm).val r4 hd
    | tuple ds =>
      cases hv3 with
      | tup q1 q2 =>
        refine .inr (.inl ⟨_, _, rfl, sqT_mono r3.b.sub q1, fun w => ?_, fun _ p hp => ?_⟩)
        · rw [q2.len] at w
          have h3 : Post X.K ex W _ G3 σ (fun d G' H' _ => ∀ v, Dp X.K G' v d → Q v H') (.ok (PyData.tuple (cutG ds l u)) s3) := h3
          rw [cut_whole ds l u w] at h3
          exact h3.val r3 (.tup q1 q2)
        · obtain ⟨sm, r4, hd⟩ := r3.newTup hp (cut_dp q2 l u)
          exact (Post.up h3 sm).val r4 hd
    | str z =>
      cases hv3
      have h3 : Post X.K ex W _ G3 σ (fun d G' H' _ => ∀ v, Dp X.K G' v d → Q v H') (R.of (if z.length ≤ sizeLine then some (PyData.str (cutS z l u)) else none) s3) := h3
      by_cases hz : z.length ≤ sizeLine
      · rw [if_pos hz] at h3
        exact .inr (.inr ⟨z, rfl, hz, h3.val r3 (.str _)⟩)
      · rw [if_neg hz] at h3
        exact h3.elim
    | _ => exact h3.elim
/-- name op b, the name's list not frozen -/
def fCmpS (o : D → D → Option D) (i : Nat) (g : FE) : FE := fun s => match look s i with
  | none => .bad
  | some _ => (g s).bind fun b s => R.of ((look s i).bind fun a => o a b) s
theorem cmpS {i : Nat} {x : Str} {b : Expr} {g : FE} {p pos : Pos} {op : CmpOp} {r : R2} {o : D → D → Option D} (ho : OpR X (compareOp op) r) (hd : ∀ (G H : Hp) (u v : V) (a b d : D) (Q : VK), Same G H → Dp X.K H u a → Dp X.K G v b → o a b = some d → (∀ k, d = .bool k → Q (.bl k) H) → r u v H Q)
    (hb : ∀ a b d, o a b = some d → ∃ k, d = .bool k)
    (hg : PE X b (tE X.K ex W g)) (hN : X.N[i]? = some x) (hv : Vis X.env.scope x) (hdb : (x == ("__debug__" : Str)) = false) (hcd : (x == ("__classdict__" : Str)) = false) (hm : behindInMarks op b = false) :
    PE X (.Compare (.Name x p) [op] [b] pos) (tE X.K ex W (fCmpS o i g)) := by
  refine PE.imp (PE.imp (pe_cmpR ho (pe_var (i := i) hN hv hdb hcd) hg hm) fun σ H Q (h : ∃ v, σ[i]? = some (some v) ∧ tE X.K ex W g σ H fun y H2 => r v y H2 Q) => h) fun σ H Q ⟨c, G, s, rl, h⟩ => ?_
  have h : Post X.K ex W c G σ (fun d G' H' _ => ∀ v, Dp X.K G' v d → Q v H') (match look s i with
    | none => .bad
    | some _ => (g s).bind fun b s => R.of ((look s i).bind fun a => o a b) s) := h
  cases z0 : look s i with
  | none =>
    rw [z0] at h
    exact h.elim
  | some a0 =>
    rw [z0] at h
    obtain ⟨v, hv, _⟩ := rl.look z0
    refine ⟨v, hv, inE rl h fun d' s2 G2 H2 v' e2 r2 hv' h2 => ?_⟩
    cases z : look s2 i with
    | none =>
      rw [z] at h2
      exact h2.elim
    | some a =>
      rw [z] at h2
      simp only [Option.bind_some] at h2
      cases z2 : o a d' with
      | none =>
        rw [z2] at h2
        exact h2.elim
      | some y =>
        rw [z2] at h2
        obtain ⟨u, hu, hda⟩ := r2.look z
        rw [hv] at hu
        have e : v = u := by simpa using hu
        subst e
        refine hd G2 H2 v v' a d' y Q r2.b.sub hda hv' z2 fun k ek => ?_
        subst ek
        exact h2.val r2 (.bl k)
theorem eEqS (i : Nat) {k : Nat} {x : Str} {b : Expr} {g : FE} {p pos : Pos} (hr : Room k X.A) (hg : PE X b (tE X.K ex W g)) (hN : X.N[i]? = some x := by rfl) (hv : Vis X.env.scope x := by first | exact Or.inl rfl | exact Or.inr (Or.inl rfl) | exact Or.inr (Or.inr rfl))
    (hdb : (x == ("__debug__" : Str)) = false := by decide) (hcd : (x == ("__classdict__" : Str)) = false := by decide) : PE X (.Compare (.Name x p) [.Eq] [b] pos) (tE X.K ex W (fCmpS dEq i g)) :=
  cmpS (op_eqD hr.units) (fun G H u v a b d Q e hx hy h q => by
    unfold dEq at h
    split at h
    · rename_i hs
      cases h
      exact ⟨a, b, hx.kit hs.1, (hy.up e).kit hs.2, hs.1, hs.2, q _ rfl⟩
    · cases h) (fun a b d h => by
    unfold dEq at h
    split at h
    · cases h; exact ⟨_, rfl⟩
    · cases h) hg hN hv hdb hcd (nomark _)
theorem eNeS (i : Nat) {k : Nat} {x : Str} {b : Expr} {g : FE} {p pos : Pos} (hr : Room k X.A) (hg : PE X b (tE X.K ex W g)) (hN : X.N[i]? = some x := by rfl) (hv : Vis X.env.scope x := by first | exact Or.inl rfl | exact Or.inr (Or.inl rfl) | exact Or.inr (Or.inr rfl))
    (hdb : (x == ("__debug__" : Str)) = false := by decide) (hcd : (x == ("__classdict__" : Str)) = false := by decide) : PE X (.Compare (.Name x p) [.NotEq] [b] pos) (tE X.K ex W (fCmpS dNe i g)) :=
  cmpS (op_neD hr.units) (fun G H u v a b d Q e hx hy h q => by
    unfold dNe at h
    split at h
    · rename_i hs
      cases h
      exact ⟨a, b, hx.kit hs.1, (hy.up e).kit hs.2, hs.1, hs.2, q _ rfl⟩
    · cases h) (fun a b d h => by
    unfold dNe at h
    split at h
    · cases h; exact ⟨_, rfl⟩
    · cases h) hg hN hv hdb hcd (nomark _)
/-! list + list, where no list stands in the written part -/
def NoL (K : PySem.W.Frag) : Prop := ∀ a o, K.lookup a = some o → o.cls ≠ .type "list"
omit [WI] in
theorem noL_of {K : PySem.W.Frag} (h : (K.all fun p => match p.2.cls with | .type "list" => false | _ => true) = true) : NoL K := fun a o e z => by
  have key : ∀ (l : List (Addr × Obj)), (l.all fun p => match p.2.cls with | .type "list" => false | _ => true) = true → l.lookup a = some o → False := by
    intro l
    induction l with
    | nil => intro _ h; cases h
    | cons p l ih =>
      intro h1 h2
      rw [List.all_cons, Bool.and_eq_true] at h1
      obtain ⟨b, ob⟩ := p
      rw [List.lookup_cons] at h2
      cases hb : a == b with
      | true =>
        rw [hb] at h2
        have e2 : ob = o := by simpa using h2
        subst e2
        have := h1.1
        simp only [z] at this
        cases this
      | false =>
        rw [hb] at h2
        exact ih h1.2 h2
  exact key K h e
theorem isL_of {K : PySem.W.Frag} (nl : NoL K) {X : Cx} (hK : X.K = K) {pins : List (Addr × Obj)} {σ : St} {H : Hp} {s : Shared} {a : Addr} {xs : List V} (I : Inv X pins σ H s) (h : SqL X.K H a xs) :
    ∃ (its : List Value) (n : Nat), Vals xs its ∧ s.heap.get? a = some { cls := .type "list", data := .seq its.toArray n } ∧ xs.length ≤ sizeLine := by
  rcases h with h | ⟨o, its, n, hk, hc, _⟩
  · obtain ⟨z, its, n, r, e⟩ := h.ok I.hok
    exact ⟨its, n, r, e, z⟩
  · rw [hK] at hk
    exact absurd hc (nl a o hk)
def rCatL (K : PySem.W.Frag) : R2 := fun x y H Q => ∃ l b xs zs, x = .ref l ∧ y = .ref b ∧ SqL K H l xs ∧ SqL K H b zs ∧ xs.length + zs.length ≤ sizeLine ∧ ∀ p, H p = none → Q (.ref p) (upd H p (.lst (xs ++ zs)))
theorem op_catL (nl : NoL X.K) : OpR X (binaryOp .Add) (rCatL X.K) := by
  intro pins s σ H x y v u Q I rx ry h
  obtain ⟨l, b, xs, zs, rfl, rfl, hH, hB, hz, q⟩ := h
  cases rx
  cases ry
  obtain ⟨its, n, r, e, _⟩ := isL_of nl rfl I hH
  obtain ⟨its2, n2, r2, e2, _⟩ := isL_of nl rfl I hB
  have k1 := r.length
  have k2 := r2.length
  refine PySem.P.add_list e e2 ?_ (by rw [List.size_toArray, List.size_toArray]; omega)
  have hn : H s.heap.objs.size = none := I.hok.fresh (Nat.le_refl _)
  refine ⟨.ref s.heap.objs.size, _, I.laid (t' := s.toks) (o := .lst (xs ++ zs)) (fun b ob q => Heap.get?_push_of_some _ q) (Nat.le_refl _) ?_, rfl, q _ hn⟩
  exact ⟨by rw [List.length_append]; omega, its ++ its2, 0, r.append r2, by rw [Heap.get?_push_size _ rfl]; simp⟩
def fCatL (f g : FE) : FA := fun s => (f s).bind fun a s => (g s).bind fun b s => match a, b with
  | .list x, .list y => if x.length + y.length ≤ sizeLine then .ok (x ++ y) s else .bad
  | _, _ => .bad
theorem oCatL (nl : NoL X.K) (hf : PE X a (tE X.K ex W f)) (hg : PE X b (tE X.K ex W g)) : PE X (.BinOp a .Add b pos) (tO X.K ex W (fCatL f g)) :=
  PE.imp (pe_op (op_catL nl) hf hg) fun σ H Q ⟨_, _, _, r, h⟩ => inE r h fun d s1 G1 H1 v e1 r1 hv h1 => inE r1 h1 fun d' s2 G2 H2 v' e2 r2 hv' h2 => by
    cases d with
    | list x =>
      cases d' with
      | list y =>
        by_cases hl : x.length + y.length ≤ sizeLine
        · have h2 : Post X.K ex W _ G2 σ (fun ds G' H' s' => ∀ v, Fresh X.K _ G' H' σ s' v ds → Q v H') (if x.length + y.length ≤ sizeLine then R.ok (x ++ y) s2 else .bad) := h2
          rw [if_pos hl] at h2
          cases hv.up e2 with
          | lst q1 q2 =>
            cases hv' with
            | lst q3 q4 =>
              refine ⟨_, _, _, _, rfl, rfl, r2.b.sub.seq q1, r2.b.sub.seq q3, by rw [q2.len, q4.len]; exact hl, fun p hp => ?_⟩
              obtain ⟨r3, hf⟩ := r2.newOwn hp (q2.app q4)
              exact h2.val' r3 _ hf
        · have h2 : Post X.K ex W _ G2 σ (fun ds G' H' s' => ∀ v, Fresh X.K _ G' H' σ s' v ds → Q v H') (if x.length + y.length ≤ sizeLine then R.ok (x ++ y) s2 else .bad) := h2
          rw [if_neg hl] at h2
          exact h2.elim
      | _ => exact h2.elim
    | _ => exact h2.elim
theorem DpRev {K : PySem.W.Frag} {G : Hp} : ∀ {vs : List V} {ds : List D}, DpAll K G vs ds → DpAll K G vs.reverse ds.reverse
  | [], [], _ => by simp; exact .nil
  | v :: vs, d :: ds, h => by
    cases h with
    | cons h1 h2 =>
      rw [List.reverse_cons, List.reverse_cons]
      exact (DpRev h2).app (.cons h1 .nil)
/-- xs[::-1], xs a list -/
def fRevL (f : FE) : FA := fun s => (f s).bind fun d s => match d with
  | .list x => .ok x.reverse s
  | _ => .bad
theorem oRevL {k : Nat} {p1 p2 p3 : Pos} (hf : PE X a (tE X.K ex W f)) : PE X (.Subscript a (.Slice none none (some (.UnaryOp .USub (.Constant (.int 1) k p1) p2)) p3) pos) (tO X.K ex W (fRevL f)) :=
  PE.imp (pe_revL hf) fun σ H Q ⟨_, _, _, r, h⟩ => inE r h fun d s1 G1 H1 v e1 r1 hv h1 => by
    cases d with
    | list x =>
      cases hv with
      | lst q1 q2 =>
        refine ⟨_, _, rfl, r1.b.sub.seq q1, fun p hp => ?_⟩
        obtain ⟨r3, hf⟩ := r1.newOwn hp (DpRev q2)
        exact h1.val' r3 _ hf
    | _ => exact h1.elim
end
end PD
/-! PDq: a quick way to look for one sign in a text (the kernel computes it soon). -/
namespace PD
open PySem PySem.Spec L2
open PyProof.Rows hiding St
def idx1 (c : Nat) : List Nat → Nat → Int
  | [], _ => -1
  | x :: r, i => if x = c then (i : Int) else idx1 c r (i + 1)
theorem idx1_spec (c : Nat) : ∀ (l : List Nat) (i0 : Nat), (idx1 c l i0 = -1 ∧ ∀ i : Nat, l[i]? ≠ some c) ∨ ∃ i : Nat, idx1 c l i0 = ((i0 + i : Nat) : Int) ∧ l[i]? = some c ∧ ∀ k : Nat, k < i → l[k]? ≠ some c
  | [], _ => .inl ⟨rfl, fun i => by simp⟩
  | x :: r, i0 => by
    unfold idx1
    by_cases h : x = c
    · rw [if_pos h]
      exact .inr ⟨0, rfl, by rw [h]; rfl, fun k hk => absurd hk (Nat.not_lt_zero _)⟩
    · rw [if_neg h]
      have h0 : (x :: r)[0]? ≠ some c := by simpa using h
      rcases idx1_spec c r (i0 + 1) with ⟨e, n⟩ | ⟨i, e, a, n⟩
      · refine .inl ⟨e, fun i => ?_⟩
        cases i with
        | zero => exact h0
        | succ i => simpa using n i
      · refine .inr ⟨i + 1, by rw [e]; congr 1; omega, by simpa using a, fun k hk => ?_⟩
        cases k with
        | zero => exact h0
        | succ k => simpa using n k (by omega)
theorem at_one {a b : Str} {c : Nat} (hb : b.cps.toList = [c]) (i : Nat) : StrLaws.At a b a.length i ↔ a.cps.toList[i]? = some c := by
  have eb : b.cps = #[c] := by
    rw [← Array.toArray_toList (xs := b.cps), hb]
  have lb : b.length = 1 := by
    show b.cps.size = 1
    rw [eb]
    rfl
  unfold StrLaws.At Builtin.Str.subAt
  rw [lb, eb, Array.getElem?_toList]
  constructor
  · rintro ⟨h1, h2⟩
    have h1 : i < a.cps.size := h1
    have h3 : a.cps.extract i (i + 1) = #[c] := by simpa using h2
    have h4 := congrArg (fun z : Array Nat => z[0]?) h3
    simp only [Array.getElem?_extract] at h4
    have h5 : 0 < min (i + 1) a.cps.size - i ∧ a.cps[i] = c := by simpa [h1] using h4
    simpa [h1] using h5.2
  · intro h
    obtain ⟨h1, h2⟩ := Array.getElem?_eq_some_iff.mp h
    refine ⟨h1, ?_⟩
    have h3 : a.cps.extract i (i + 1) = #[c] := by
      apply Array.ext
      · simp
        omega
      · intro j j1 j2
        have j0 : j = 0 := by simp at j2; omega
        subst j0
        simp [h2]
    simp [h3]
def findQ (a b : Str) : Int := match b.cps.toList with
  | [c] => idx1 c a.cps.toList 0
  | _ => Txt.find a b
theorem findQ_eq (a b : Str) : findQ a b = Txt.find a b := by
  unfold findQ
  split
  · rename_i c hb
    have h1 := idx1_spec c a.cps.toList 0
    have h2 := find_whole a b
    rcases h1 with ⟨e1, n1⟩ | ⟨i, e1, a1, n1⟩
    · rcases h2 with ⟨e2, _⟩ | ⟨j, e2, a2, _⟩
      · rw [e1, e2]
      · exact absurd ((at_one hb j).mp a2) (n1 j)
    · rcases h2 with ⟨e2, n2⟩ | ⟨j, e2, a2, n2⟩
      · exact absurd ((at_one hb i).mpr a1) (n2 i)
      · have b2 := (at_one hb j).mp a2
        have ij : i = j := by
          rcases Nat.lt_trichotomy i j with h | h | h
          · exact absurd ((at_one hb i).mpr a1) (n2 i h)
          · exact h
          · exact absurd b2 (n1 j h)
        rw [e1, e2, ij, Nat.zero_add]
  · rfl
/-- one text in another -/
def inS (i j : Str) : Bool := !(Builtin.Str.occurrences j i 0 j.length 1).isEmpty
def inQ (i j : Str) : Bool := match i.cps.toList with
  | [c] => decide (0 ≤ idx1 c j.cps.toList 0)
  | _ => inS i j
theorem inQ_eq (i j : Str) : inQ i j = inS i j := by
  unfold inQ
  split
  · rename_i c hb
    have h : idx1 c j.cps.toList 0 = Txt.find j i := by
      have z := findQ_eq j i
      unfold findQ at z
      rw [hb] at z
      exact z
    rw [h]
    unfold inS Txt.find
    cases Builtin.Str.occurrences j i 0 j.length 1 with
    | nil => rfl
    | cons k r =>
      show decide (0 ≤ (k : Int)) = true
      exact decide_eq_true (Int.natCast_nonneg k)
  · rfl
end PD
/-! PD10: comparisons as tests, chains, a, b = e1, e2. -/
namespace PD
open PySem PySem.Spec L2
open PyProof.Rows hiding St
variable [WI]

section
variable {X : Cx} {ex : ExT} {W : WX} {a b : Expr} {f g : FE} {pos : Pos}
theorem rdBin {K : PySem.W.Frag} {r : R2} {o : D → D → Option D} (hd : OpD K r o) {σ : St} {H : Hp} {Q : VK} (h : tE K ex W (fBin o f g) σ H Q) : tOp r (tE K ex W f) (tE K ex W g) σ H Q := by
  obtain ⟨_, _, _, r, h⟩ := h
  exact inE r h fun d s1 G1 H1 v e1 r1 hv h1 => inE r1 h1 fun d' s2 G2 H2 v' e2 r2 hv' h2 => opFin hd r2 (hv.up e2) hv' h2
theorem toTest {K : PySem.W.Frag} {σ : St} {H : Hp} {Q : Bool → Hp → Prop} (h : tT K ex W (tVal f) σ H Q) : tE K ex W f σ H fun x H' => ∃ k, x = .bl k ∧ Q k H' := by
  obtain ⟨_, _, _, r, h⟩ := h
  refine inE r h fun d s1 G1 H1 v e1 r1 hv h1 => ?_
  cases d with
  | bool k =>
    cases hv
    exact ⟨k, rfl, h1.val' r1⟩
  | _ => exact h1.elim
theorem tCmp {op : CmpOp} {r : R2} {o : D → D → Option D} (ho : OpR X (compareOp op) r) (hd : OpD X.K r o) (hf : PE X a (tE X.K ex W f)) (hg : PE X b (tE X.K ex W g)) (hm : behindInMarks op b = false := by first | exact nomark _ | rfl) :
    PT X (.Compare a [op] [b] pos) (tT X.K ex W (tVal (fBin o f g))) := PT.imp (pt_cmpR ho hf hg hm) fun σ H Q h => rdBin hd (toTest h)
theorem tLt' (hf : PE X a (tE X.K ex W f)) (hg : PE X b (tE X.K ex W g)) : PT X (.Compare a [.Lt] [b] pos) (tT X.K ex W (tVal (fBin dLt f g))) := tCmp op_lt od_lt hf hg
theorem tLe' (hf : PE X a (tE X.K ex W f)) (hg : PE X b (tE X.K ex W g)) : PT X (.Compare a [.LtE] [b] pos) (tT X.K ex W (tVal (fBin dLe f g))) := tCmp op_le od_le hf hg
theorem tGt' (hf : PE X a (tE X.K ex W f)) (hg : PE X b (tE X.K ex W g)) : PT X (.Compare a [.Gt] [b] pos) (tT X.K ex W (tVal (fBin dGt f g))) := tCmp op_gt od_gt hf hg
theorem tGe' (hf : PE X a (tE X.K ex W f)) (hg : PE X b (tE X.K ex W g)) : PT X (.Compare a [.GtE] [b] pos) (tT X.K ex W (tVal (fBin dGe f g))) := tCmp op_ge od_ge hf hg
theorem tEq' {k : Nat} (hr : Room k X.A) (hf : PE X a (tE X.K ex W f)) (hg : PE X b (tE X.K ex W g)) : PT X (.Compare a [.Eq] [b] pos) (tT X.K ex W (tVal (fBin dEq f g))) := tCmp (op_eqD hr.units) od_eq hf hg
theorem tNe' {k : Nat} (hr : Room k X.A) (hf : PE X a (tE X.K ex W f)) (hg : PE X b (tE X.K ex W g)) : PT X (.Compare a [.NotEq] [b] pos) (tT X.K ex W (tVal (fBin dNe f g))) := tCmp (op_neD hr.units) od_ne hf hg
theorem tIsN' (hf : PE X a (tE X.K ex W f)) (hg : PE X b (tE X.K ex W g)) : PT X (.Compare a [.Is] [b] pos) (tT X.K ex W (tVal (fBin dIsN f g))) := tCmp op_isN od_isN hf hg
theorem tNotN' (hf : PE X a (tE X.K ex W f)) (hg : PE X b (tE X.K ex W g)) : PT X (.Compare a [.IsNot] [b] pos) (tT X.K ex W (tVal (fBin dNotN f g))) := tCmp op_notN od_notN hf hg
/-- name op b -/
theorem rdS {i : Nat} {r : R2} {o : D → D → Option D} (hd : ∀ (G H : Hp) (u v : V) (a b d : D) (Q : VK), Same G H → Dp X.K H u a → Dp X.K G v b → o a b = some d → (∀ k, d = .bool k → Q (.bl k) H) → r u v H Q)
    (hb : ∀ a b d, o a b = some d → ∃ k, d = .bool k) {σ : St} {H : Hp} {Q : VK} (h : tE X.K ex W (fCmpS o i g) σ H Q) : tOp r (tVar i) (tE X.K ex W g) σ H Q := by
  obtain ⟨c, G, s, rl, h⟩ := h
  have h : Post X.K ex W c G σ (fun d G' H' _ => ∀ v, Dp X.K G' v d → Q v H') (match look s i with
    | none => .bad
    | some _ => (g s).bind fun b s => R.of ((look s i).bind fun a => o a b) s) := h
  cases z0 : look s i with
  | none =>
    rw [z0] at h
    exact h.elim
  | some a0 =>
    rw [z0] at h
    obtain ⟨v, hv, _⟩ := rl.look z0
    refine ⟨v, hv, inE rl h fun d' s2 G2 H2 v' e2 r2 hv' h2 => ?_⟩
    cases z : look s2 i with
    | none =>
      rw [z] at h2
      exact h2.elim
    | some a =>
      rw [z] at h2
      simp only [Option.bind_some] at h2
      cases z2 : o a d' with
      | none =>
        rw [z2] at h2
        exact h2.elim
      | some y =>
        rw [z2] at h2
        obtain ⟨u, hu, hda⟩ := r2.look z
        rw [hv] at hu
        have e : v = u := by simpa using hu
        subst e
        refine hd G2 H2 v v' a d' y Q r2.b.sub hda hv' z2 fun k ek => ?_
        subst ek
        exact h2.val r2 (.bl k)
theorem eqS_hd {K : PySem.W.Frag} (G H : Hp) (u v : V) (a b d : D) (Q : VK) (e : Same G H) (hx : Dp K H u a) (hy : Dp K G v b) (h : dEq a b = some d) (q : ∀ k, d = .bool k → Q (.bl k) H) : rEqD K u v H Q := by
  unfold dEq at h
  split at h
  · rename_i hs
    cases h
    exact ⟨a, b, hx.kit hs.1, (hy.up e).kit hs.2, hs.1, hs.2, q _ rfl⟩
  · cases h
theorem neS_hd {K : PySem.W.Frag} (G H : Hp) (u v : V) (a b d : D) (Q : VK) (e : Same G H) (hx : Dp K H u a) (hy : Dp K G v b) (h : dNe a b = some d) (q : ∀ k, d = .bool k → Q (.bl k) H) : rNeD K u v H Q := by
  unfold dNe at h
  split at h
  · rename_i hs
    cases h
    exact ⟨a, b, hx.kit hs.1, (hy.up e).kit hs.2, hs.1, hs.2, q _ rfl⟩
  · cases h
theorem eq_bl (a b d : D) (h : dEq a b = some d) : ∃ k, d = .bool k := by
  unfold dEq at h
  split at h
  · cases h; exact ⟨_, rfl⟩
  · cases h
theorem ne_bl (a b d : D) (h : dNe a b = some d) : ∃ k, d = .bool k := by
  unfold dNe at h
  split at h
  · cases h; exact ⟨_, rfl⟩
  · cases h
theorem tEqS (i : Nat) {k : Nat} {x : Str} {p : Pos} (hr : Room k X.A) (hg : PE X b (tE X.K ex W g)) (hN : X.N[i]? = some x := by rfl) (hv : Vis X.env.scope x := by first | exact Or.inl rfl | exact Or.inr (Or.inl rfl) | exact Or.inr (Or.inr rfl))
    (hdb : (x == ("__debug__" : Str)) = false := by decide) (hcd : (x == ("__classdict__" : Str)) = false := by decide) : PT X (.Compare (.Name x p) [.Eq] [b] pos) (tT X.K ex W (tVal (fCmpS dEq i g))) :=
  PT.imp (pt_cmpR (op_eqD hr.units) (pe_var hN hv hdb hcd) hg (nomark _)) fun σ H Q h => rdS eqS_hd eq_bl (toTest h)
theorem tNeS (i : Nat) {k : Nat} {x : Str} {p : Pos} (hr : Room k X.A) (hg : PE X b (tE X.K ex W g)) (hN : X.N[i]? = some x := by rfl) (hv : Vis X.env.scope x := by first | exact Or.inl rfl | exact Or.inr (Or.inl rfl) | exact Or.inr (Or.inr rfl))
    (hdb : (x == ("__debug__" : Str)) = false := by decide) (hcd : (x == ("__classdict__" : Str)) = false := by decide) : PT X (.Compare (.Name x p) [.NotEq] [b] pos) (tT X.K ex W (tVal (fCmpS dNe i g))) :=
  PT.imp (pt_cmpR (op_neD hr.units) (pe_var hN hv hdb hcd) hg (nomark _)) fun σ H Q h => rdS neS_hd ne_bl (toTest h)

/-! ### in, not in: a list, a tuple of data of any depth; a text in a text -/
def rInX (K : PySem.W.Frag) (neg : Bool) : R2 := fun x y H Q => ∃ d ds, L2.Dp K H x d ∧ (L2.Dp K H y (.list ds) ∨ L2.Dp K H y (.tuple ds)) ∧ SeqAt.shaped d = true ∧ SeqAt.shaped (.list ds) = true ∧ Q (.bl (neg ^^ ds.any fun z => PyData.eqv z d)) H
theorem room_inX {A : Around} {ds : List D} {d : D} (hd : SeqAt.shaped d = true) (hu : A.units + 65 < cLine) : A.units + 1 + min (PyData.depthAll ds) d.depth < cLine := by
  have h1 := SeqAt.depth_of_shaped hd
  have h2 : min (PyData.depthAll ds) d.depth ≤ d.depth := Nat.min_le_right _ _
  omega
theorem op_inX (hu : X.A.units + 65 < cLine) : OpR X (compareOp .In) (rInX X.K false) := by
  intro pins s σ H x y v u Q I rx ry ⟨d, ds, hd, he, sd, se, q⟩
  obtain ⟨as, r1⟩ := Dp.reads I d x v hd rx
  rw [Bool.false_xor] at q
  rcases he with he | he
  · obtain ⟨bs, r2⟩ := Dp.reads I _ y u he ry
    exact SeqAt.in_list_reads r2 r1 (SeqAt.canLay_of_shaped se) (SeqAt.canLay_of_shaped sd) (room_inX sd hu) ⟨.bl _, H, I, rfl, q⟩
  · obtain ⟨bs, r2⟩ := Dp.reads I _ y u he ry
    exact SeqAt.in_tuple_reads r2 r1 (SeqAt.canLay_of_shaped se) (SeqAt.canLay_of_shaped sd) (room_inX sd hu) ⟨.bl _, H, I, rfl, q⟩
theorem op_ninX (hu : X.A.units + 65 < cLine) : OpR X (compareOp .NotIn) (rInX X.K true) := by
  intro pins s σ H x y v u Q I rx ry ⟨d, ds, hd, he, sd, se, q⟩
  obtain ⟨as, r1⟩ := Dp.reads I d x v hd rx
  rw [Bool.true_xor] at q
  rcases he with he | he
  · obtain ⟨bs, r2⟩ := Dp.reads I _ y u he ry
    exact SeqAt.notIn_list_reads r2 r1 (SeqAt.canLay_of_shaped se) (SeqAt.canLay_of_shaped sd) (room_inX sd hu) ⟨.bl _, H, I, rfl, q⟩
  · obtain ⟨bs, r2⟩ := Dp.reads I _ y u he ry
    exact SeqAt.notIn_tuple_reads r2 r1 (SeqAt.canLay_of_shaped se) (SeqAt.canLay_of_shaped sd) (room_inX sd hu) ⟨.bl _, H, I, rfl, q⟩
def rInS (neg : Bool) : R2 := fun x y H Q => ∃ i j, x = .str i ∧ y = .str j ∧ Q (.bl (neg ^^ inS i j)) H
theorem op_inS : OpR X (compareOp .In) (rInS false) := fun pins s σ H x y v u Q I rx ry ⟨i, j, e1, e2, q⟩ => op_in_str pins s σ H x y v u Q I rx ry ⟨i, j, e1, e2, by rw [Bool.false_xor] at q; exact q⟩
theorem op_ninS : OpR X (compareOp .NotIn) (rInS true) := fun pins s σ H x y v u Q I rx ry ⟨i, j, e1, e2, q⟩ => op_notin_str pins s σ H x y v u Q I rx ry ⟨i, j, e1, e2, by rw [Bool.true_xor] at q; exact q⟩
def dInX (neg : Bool) (a b : D) : Option D := match b with
  | .list ds => if SeqAt.shaped a = true ∧ SeqAt.shaped (.list ds) = true then some (.bool (neg ^^ ds.any fun z => PyData.eqv z a)) else none
  | .tuple ds => if SeqAt.shaped a = true ∧ SeqAt.shaped (.list ds) = true then some (.bool (neg ^^ ds.any fun z => PyData.eqv z a)) else none
  | .str j => match a with
    | .str i => some (.bool (neg ^^ inQ i j))
    | _ => none
  | _ => none
abbrev dIn := dInX false
abbrev dNin := dInX true
theorem od_inX {K : PySem.W.Frag} {neg : Bool} : OpD K (fun x y H Q => rInX K neg x y H Q ∨ rInS neg x y H Q) (dInX neg) := by
  intro c G H σ s x y a b d Q r hx hy e q
  unfold dInX at e
  split at e
  · split at e
    · rename_i h
      cases e
      exact .inl ⟨_, _, (hx.up r.b.sub).kit h.1, .inl ((hy.up r.b.sub).kit h.2), h.1, h.2, q _ G H (Same.refl _) r (.bl _)⟩
    · cases e
  · split at e
    · rename_i h
      cases e
      exact .inl ⟨_, _, (hx.up r.b.sub).kit h.1, .inr (dp_kit _ _ (by
        have z := h.2
        unfold SeqAt.shaped at z
        rw [Bool.and_eq_true] at z
        exact z.1) (hy.up r.b.sub)), h.1, h.2, q _ G H (Same.refl _) r (.bl _)⟩
    · cases e
  · split at e
    · rw [inQ_eq] at e
      cases e
      cases hx
      cases hy
      exact .inr ⟨_, _, rfl, rfl, q _ G H (Same.refl _) r (.bl _)⟩
    · cases e
  · cases e
theorem hu65 {A : Around} {k : Nat} (hr : Room k A) : A.units + 65 < cLine := by have := hr.un; omega
theorem eIn {k : Nat} (hr : Room k X.A) (hf : PE X a (tE X.K ex W f)) (hg : PE X b (tE X.K ex W g)) (hm : behindInMarks .In b = false := by rfl) : PE X (.Compare a [.In] [b] pos) (tE X.K ex W (fBin dIn f g)) := eCmp ((op_inX (hu65 hr)).or op_inS) od_inX hf hg hm
theorem eNin {k : Nat} (hr : Room k X.A) (hf : PE X a (tE X.K ex W f)) (hg : PE X b (tE X.K ex W g)) (hm : behindInMarks .NotIn b = false := by rfl) : PE X (.Compare a [.NotIn] [b] pos) (tE X.K ex W (fBin dNin f g)) := eCmp ((op_ninX (hu65 hr)).or op_ninS) od_inX hf hg hm
theorem tIn' {k : Nat} (hr : Room k X.A) (hf : PE X a (tE X.K ex W f)) (hg : PE X b (tE X.K ex W g)) (hm : behindInMarks .In b = false := by rfl) : PT X (.Compare a [.In] [b] pos) (tT X.K ex W (tVal (fBin dIn f g))) := tCmp ((op_inX (hu65 hr)).or op_inS) od_inX hf hg hm
theorem tNin' {k : Nat} (hr : Room k X.A) (hf : PE X a (tE X.K ex W f)) (hg : PE X b (tE X.K ex W g)) (hm : behindInMarks .NotIn b = false := by rfl) : PT X (.Compare a [.NotIn] [b] pos) (tT X.K ex W (tVal (fBin dNin f g))) := tCmp ((op_ninX (hu65 hr)).or op_ninS) od_inX hf hg hm

/-! ### chains -/
def fChain (o o' : D → D → Option D) (f g h : FE) : FE := fun s => (f s).bind fun a s => (g s).bind fun b s => match o a b with
  | some (.bool true) => (h s).bind fun c s => R.of (o' b c) s
  | some (.bool false) => .ok (.bool false) s
  | _ => .bad
variable {c : Expr} {h' : FE}
theorem rdChain {K : PySem.W.Frag} {r r' : R2} {o o' : D → D → Option D} (hd : OpD K r o) (hd' : OpD K r' o') {σ : St} {H : Hp} {Q : VK} (h : tE K ex W (fChain o o' f g h') σ H Q) : tChain r r' (tE K ex W f) (tE K ex W g) (tE K ex W h') σ H Q := by
  obtain ⟨_, _, _, rl, h⟩ := h
  refine inE rl h fun d s1 G1 H1 v e1 r1 hv h1 => inE r1 h1 fun d' s2 G2 H2 v' e2 r2 hv' h2 => ?_
  cases z : o d d' with
  | none =>
    simp only [z] at h2
    exact h2.elim
  | some y =>
    cases y with
    | bool k =>
      refine hd _ G2 H2 σ s2 v v' d d' _ _ r2 (hv.up e2) hv' z fun w G3 H3 e3 r3 hw => ?_
      cases hw
      refine ⟨k, rfl, ?_⟩
      cases k with
      | true =>
        simp only [z] at h2
        exact inE r3 (Post.up h2 e3) fun d3 s3 G4 H4 v3 e4 r4 hv3 h3 => opFin hd' r4 ((hv'.up e3).up e4) hv3 h3
      | false =>
        simp only [z] at h2
        exact (Post.up h2 e3).val r3 (.bl _)
    | _ =>
      simp only [z] at h2
      exact h2.elim
theorem eChain {op op' : CmpOp} {r r' : R2} {o o' : D → D → Option D} (ho : OpR X (compareOp op) r) (hd : OpD X.K r o) (ho' : OpR X (compareOp op') r') (hd' : OpD X.K r' o') (hf : PE X a (tE X.K ex W f)) (hg : PE X b (tE X.K ex W g)) (hh : PE X c (tE X.K ex W h'))
    (hm : lastMarks [op, op'] [b, c] = false := by with_unfolding_all rfl) : PE X (.Compare a [op, op'] [b, c] pos) (tE X.K ex W (fChain o o' f g h')) := PE.imp (pe_chain ho ho' hf hg hh hm) fun σ H Q h => rdChain hd hd' h
theorem tChn {op op' : CmpOp} {r r' : R2} {o o' : D → D → Option D} (ho : OpR X (compareOp op) r) (hd : OpD X.K r o) (ho' : OpR X (compareOp op') r') (hd' : OpD X.K r' o') (hf : PE X a (tE X.K ex W f)) (hg : PE X b (tE X.K ex W g)) (hh : PE X c (tE X.K ex W h'))
    (hm : lastMarks [op, op'] [b, c] = false := by with_unfolding_all rfl) : PT X (.Compare a [op, op'] [b, c] pos) (tT X.K ex W (tVal (fChain o o' f g h'))) := PT.imp (pt_chain ho ho' hf hg hh hm) fun σ H Q h => rdChain hd hd' (toTest h)

/-! ### a, b = e1, e2 (plain local names) -/
theorem Rel.putV {K : PySem.W.Frag} {c : Act} {G H : Hp} {σ : St} {s : S} (r : Rel K c G H σ s) (i : Nat) {v : V} {d : D} (h : Dp K G v d) : Rel K c G H (σ.set i (some v)) (s.put i (.val d)) :=
  r.put i (e := .val d) h (fun z => nomatch z)
def putAll : List Nat → List D → S → O
  | [], [], s => .nx s
  | i :: is, d :: ds, s => putAll is ds (s.put i (.val d))
  | _, _, _ => .bad
def sPar (is : List Nat) (f : FA) : FO := fun s => (f s).stm fun ds s => putAll is ds s
theorem kPar2 {i0 i1 : Nat} {x y : Str} {px py pt : Pos} {kt k2 pt2} {fa : FA} (hN : X.N.Nodup) (ha : PA X [a, b] (tA X.K ex W fa)) (hc : X.calm = true := by rfl) (hi : X.N[i0]? = some x := by rfl) (hj : X.N[i1]? = some y := by rfl) (hij : i0 ≠ i1 := by decide)
    (hx : X.env.scope.names.lookup x = some .local := by rfl) (hy : X.env.scope.names.lookup y = some .local := by rfl) (hw : swappedStores [.Tuple [.Name x px, .Name y py] kt pt] (.Tuple [a, b] k2 pt2) X.env = pure (some [x, y]) := by rfl)
    (hs : swapsWithSole [.Tuple [.Name x px, .Name y py] kt pt] (.Tuple [a, b] k2 pt2) pos.line X.env = pure false := by rfl) :
    PS X (.Assign [.Tuple [.Name x px, .Name y py] kt pt] (.Tuple [a, b] k2 pt2) pos) (tS X.K ex W (sPar [i0, i1] fa)) :=
  PS.imp (ps_par hc hN hi hj hij hx hy ha hw hs) fun En σ H ⟨_, _, _, r, h⟩ => soA r h fun ds s1 G1 H1 vs e1 r1 hv h1 => by
    match ds, vs, hv, h1 with
    | [d1, d2], _, .cons q1 (.cons q2 .nil), h1 =>
      exact ⟨_, _, rfl, h1 _ G1 H1 (Same.refl _) ((r1.putV i0 q1).putV i1 q2)⟩
    | [], _, _, h1 => exact h1.elim
    | [_], _, _, h1 => exact h1.elim
    | _ :: _ :: _ :: _, _, _, h1 => exact h1.elim
theorem kPar3 {i0 i1 i2 : Nat} {x y z : Str} {px py pz pt : Pos} {kt k2 pt2} {fa : FA} (hN : X.N.Nodup) (ha : PA X [a, b, c] (tA X.K ex W fa)) (hc : X.calm = true := by rfl) (hi : X.N[i0]? = some x := by rfl) (hj : X.N[i1]? = some y := by rfl) (hl : X.N[i2]? = some z := by rfl) (hij : i0 ≠ i1 := by decide) (hil : i0 ≠ i2 := by decide) (hjl : i1 ≠ i2 := by decide)
    (hx : X.env.scope.names.lookup x = some .local := by rfl) (hy : X.env.scope.names.lookup y = some .local := by rfl) (hz : X.env.scope.names.lookup z = some .local := by rfl) (hw : swappedStores [.Tuple [.Name x px, .Name y py, .Name z pz] kt pt] (.Tuple [a, b, c] k2 pt2) X.env = pure (some [x, y, z]) := by rfl)
    (hs : swapsWithSole [.Tuple [.Name x px, .Name y py, .Name z pz] kt pt] (.Tuple [a, b, c] k2 pt2) pos.line X.env = pure false := by rfl) :
    PS X (.Assign [.Tuple [.Name x px, .Name y py, .Name z pz] kt pt] (.Tuple [a, b, c] k2 pt2) pos) (tS X.K ex W (sPar [i0, i1, i2] fa)) :=
  PS.imp (ps_par3 hc hN hi hj hl hij hil hjl hx hy hz ha hw hs) fun En σ H ⟨_, _, _, r, h⟩ => soA r h fun ds s1 G1 H1 vs e1 r1 hv h1 => by
    match ds, vs, hv, h1 with
    | [d1, d2, d3], _, .cons q1 (.cons q2 (.cons q3 .nil)), h1 =>
      exact ⟨_, _, _, rfl, h1 _ G1 H1 (Same.refl _) (((r1.putV i0 q1).putV i1 q2).putV i2 q3)⟩
    | [], _, _, h1 => exact h1.elim
    | [_], _, _, h1 => exact h1.elim
    | [_, _], _, _, h1 => exact h1.elim
    | _ :: _ :: _ :: _ :: _, _, _, h1 => exact h1.elim
end
/-- a def that is not called -/
theorem fnD_bad {P : Program} {w : World} {K : PySem.W.Frag} {mg : Str → Option Value} {base : Heap} {ex : ExT} {k n : Nat} {x : Str} {h : Bool} {f : Addr} {fd : FuncData} {ps : List Str} (kp : PySem.W.keepIn K (.ref f) = true) (hb : Binds K fd ps []) (hmg : mg x = some (.ref f)) :
    FnD P w K mg base ex k x h n (fun _ _ => .bad) :=
  ⟨f, fd, ps, ⟨fun vs H Q E hh => by obtain ⟨_, _, _, _, _, _, _, _, _, _, q⟩ := hh; exact q.elim, fun _ _ _ _ _ _ _ _ _ _ _ _ _ hh => by obtain ⟨_, _, _, _, _, _, _, _, _, _, q⟩ := hh; exact q.elim⟩, hmg, kp, hb⟩
end PD
/-! PD11: own exceptions: made, raised, caught. -/
namespace PD
open PySem PySem.Spec L2
open PyProof.Rows hiding St
variable [WI]
section
variable {prog : Program} {w : World} {A : Around} {E : Value → Shared → Prop} {R : Result → Shared → Prop} {hp : Heap} {g : Array GenState} {d : Drawn} {t : Nat} {os : OsState}
/-- the first field: the dict is made -/
theorem exSet1 {K : PySem.W.Frag} {name : Str} {tk : Tok} {v : Value} {x C : Addr} {fv : Array Value}
    (X : K.In hp) (hx : hp.get? x = some { cls := .ref C, data := .fields fv }) (hov : PySem.W.excOver K C ESX.exTail = true) (hh : PySem.W.hasDictIn K C = true) (ha : PySem.W.takerIn K C name = some none)
    (hq : ∀ h' tk' dx, (∀ b o, b ≠ x → hp.get? b = some o → h'.get? b = some o) → hp.objs.size ≤ dx → dx ≠ x → h'.get? x = some { cls := .ref C, dict := some dx, data := .fields fv } →
      h'.Ns1 dx (fun y => if y = name then some v else none) → R (.ok (.ret .none)) ⟨h', g, d, tk', os⟩) :
    codeAny (model prog w) A (.call (.builtin "object.__setattr__") ⟨[.ref x, .str name tk, v], []⟩) R ⟨hp, g, d, t, os⟩ := by
  have hne : x ≠ hp.objs.size := Nat.ne_of_lt (Heap.lt_size hx)
  obtain ⟨cd, hc, hd'⟩ := PySem.W.any_some hh
  have Lc : PySem.W.Looks (model prog w) hp (classData C) cd := PySem.W.looks_clsIn X hc
  refine PySem.W.osa_openX (s := ⟨hp, g, d, t, os⟩) (od := none) PySem.F.store_Exception X ⟨hx, rfl, rfl, trivial⟩ hov ha fun b => ?_
  obtain ⟨nm, bs, mro, ns, qn, hd, sn, sb, ab, col, del⟩ := cd
  dsimp only at hd'
  subst hd'
  unfold Builtin.ObjectAttr.storeInOwnDict Builtin.ObjectAttr.ownDictForStores
  repeat (first | with_reducible refine HandSPX.store_in_new ?_ ?_ | with_reducible refine wpAny_loadPart_at hx ?_ | with_reducible refine Lc.at ?_ | wp_step)
  · exact ⟨_, #[], _, (Heap.get?_update_ne _ _ _ _ hne.symm).trans (Heap.get?_push_at rfl rfl), rfl, fun e he => absurd he (by simp), fun _ => rfl⟩
  · intro h' tk' hn' hs
    refine hq h' tk' hp.objs.size (fun b o hb ho => ?_) (Nat.le_refl _) hne.symm ?_ hn'
    · have e1 := hs.2 b (Nat.ne_of_lt (Heap.lt_size ho))
      rw [e1, Heap.get?_update_ne _ _ _ _ hb]
      exact Heap.get?_push_of_some _ ho
    · rw [hs.2 x hne]
      exact Heap.get?_update_self _ (Heap.get?_push_of_some _ hx) rfl
/-- a later field -/
theorem exSet2 {K : PySem.W.Frag} {name : Str} {tk : Tok} {v : Value} {x C dx : Addr} {fv : Array Value} {m0 : Str → Option Value} {nl : List Str}
    (X : K.In hp) (hx : hp.get? x = some { cls := .ref C, dict := some dx, data := .fields fv }) (hns : hp.Ns1 dx m0) (hw : Within m0 nl) (hz : nl.length ≤ 1000) (hov : PySem.W.excOver K C ESX.exTail = true) (hh : PySem.W.hasDictIn K C = true)
    (ha : PySem.W.takerIn K C name = some none)
    (hq : ∀ h' tk', (∀ b o, b ≠ dx → hp.get? b = some o → h'.get? b = some o) → h'.Ns1 dx (fun y => if y = name then some v else m0 y) → R (.ok (.ret .none)) ⟨h', g, d, tk', os⟩) :
    codeAny (model prog w) A (.call (.builtin "object.__setattr__") ⟨[.ref x, .str name tk, v], []⟩) R ⟨hp, g, d, t, os⟩ := by
  obtain ⟨oD, esD, epD, hoD, hdD, _⟩ := hns.count hw
  obtain ⟨cd, hc, hd'⟩ := PySem.W.any_some hh
  have Lc : PySem.W.Looks (model prog w) hp (classData C) cd := PySem.W.looks_clsIn X hc
  refine PySem.W.osa_openX (s := ⟨hp, g, d, t, os⟩) (od := some oD) PySem.F.store_Exception X ⟨hx, rfl, rfl, hoD⟩ hov ha fun b => ?_
  obtain ⟨nm, bs, mro, ns, qn, hd, sn, sb, ab, col, del⟩ := cd
  dsimp only at hd'
  subst hd'
  unfold Builtin.ObjectAttr.storeInOwnDict Builtin.ObjectAttr.ownDictForStores
  repeat (first | with_reducible refine ESX.store_in_old hns hw hz ?_ | with_reducible refine wpAny_loadPart_at hx ?_ | with_reducible refine Lc.at ?_ | wp_step)
  exact fun h' tk' hn' hs => hq h' tk' (fun b o hb ho => (hs.2 b hb).trans ho) hn'
end
end PD
namespace PD
open PySem PySem.Spec L2
open PyProof.Rows hiding St
open PySem.W PySem.Calls PySem.HandSPX
variable [WI]
/-- what the init leaves of the fresh exception at x -/
structure XEnd (h h' : Heap) (x C dx t1 : Addr) (m : Str → Option Value) : Prop where
  keep : ∀ b o, b ≠ x → h.get? b = some o → h'.get? b = some o
  obj : h'.get? x = some (PySem.HandSPX.excO C t1 |> fun o => { o with dict := some dx })
  dbig : h.objs.size ≤ dx
  dne : dx ≠ x
  ns : h'.Ns1 dx m
def InitOk (K : Frag) (C fI : Addr) (fs : List Str) : Prop :=
  ∀ {prog : Program} {w : World} {A : Around} {R : Result → Shared → Prop} {s : Shared} {x t0 : Addr} {vs : List Value}, vs.length = fs.length → K.In s.heap → s.heap.NoLimit → s.heap.get? x = some (PySem.HandSPX.excO C t0) → K.lookup x = none → A.depth < recursionLimit →
    (∀ h' tk dx, XEnd s.heap h' x C dx t0 (fun y => (fs.zip vs).lookup y) → R (.ok (.ret .none)) { s with heap := h', toks := tk }) → codeAny (model prog w) A (.call (.ref fI) ⟨.ref x :: vs, []⟩) R s
/-- what is known of an own class of exceptions -/
structure XCls (K : Frag) (mg : Str → Option Value) (x : Str) (C fI : Addr) (fs : List Str) : Prop where
  gC : mg x = some (.ref C)
  ini : excInitIn K C ESX.exTail "Exception.__new__" = true
  ovr : excOver K C ESX.exTail = true
  sa : findIn K (.ref C) "__setattr__" = some (some (.builtin "object.__setattr__"))
  xf : xfB K C = true
  no : ∀ n ∈ fs, findIn K (.ref C) n = some none
  iC : findIn K (.ref C) "__init__" = some (some (.ref fI))
  tI : typeIn K (.ref fI) = some (.type "function")
  kC : keepIn K (.ref C) = true
  tyC : typeIn K (.ref C) = some (.type "type")
  te : exmOne K (.ref C) (.ref C) = some true
  init : InitOk K C fI fs
theorem XCls.hd {K : Frag} {mg : Str → Option Value} {x : Str} {C fI : Addr} {fs : List Str} (T : XCls K mg x C fI fs) : hasDictIn K C = true := (xfB_ok T.xf).hdC
theorem XCls.ex {K : Frag} {mg : Str → Option Value} {x : Str} {C fI : Addr} {fs : List Str} (T : XCls K mg x C fI fs) : subIn K (.ref C) (.type "BaseException") = some true := (xfB_ok T.xf).exC
theorem takerNo {K : Frag} {C : Addr} {n : Str} (h : findIn K (.ref C) n = some none) : takerIn K C n = some none := by unfold takerIn; rw [h]; rfl
/-- a made exception -/
structure XMade (h h' : Heap) (e C d : Addr) (m : Str → Option Value) : Prop where
  keep : ∀ b o, h.get? b = some o → h'.get? b = some o
  new : h.objs.size ≤ e
  obj : ∃ oe vs, h'.get? e = some oe ∧ oe.cls = .ref C ∧ oe.dict = some d ∧ oe.data = .fields vs ∧ vs[1]? = some .none
  dbig : h.objs.size ≤ d
  dne : d ≠ e
  ns : h'.Ns1 d m
theorem x_made {prog : Program} {w : World} {A : Around} {R : Result → Shared → Prop} {s : Shared} {K : Frag} {mg : Str → Option Value} {x : Str} {C fI : Addr} {fs : List Str} (T : XCls K mg x C fI fs) {vs : List Value} (hl : vs.length = fs.length) (hsz : vs.length ≤ sizeLine)
    (X : K.In s.heap) (hlim : s.heap.NoLimit) (hroom : A.depth + 1 < recursionLimit)
    (hq : ∀ h' tk e d, XMade s.heap h' e C d (fun y => (fs.zip vs).lookup y) → R (.ok (.ret (.ref e))) { s with heap := h', toks := tk }) :
    codeAny (model prog w) A (.call (.ref C) ⟨vs, []⟩) R s := by
  obtain ⟨nm, N, qn, bs, bm, hdct, sn, sub, ab, col, dd, k0, k1, k2, k3, k5, hC, hT⟩ := excInit_of X T.ini
  obtain ⟨hp, g, dr, tk, os⟩ := s
  have kp : ∀ b o, hp.get? b = some o → ((hp.push (kdv_tup vs)).push (excO C hp.objs.size)).get? b = some o := fun b o e => Heap.get?_push_of_some _ (Heap.get?_push_of_some _ e)
  have hget : ((hp.push (kdv_tup vs)).push (excO C hp.objs.size)).get? (hp.objs.size + 1) = some (excO C hp.objs.size) := by heap_get
  have hnx : K.lookup (hp.objs.size + 1) = none := by
    cases q : K.lookup (hp.objs.size + 1) with
    | none => rfl
    | some o =>
      have z : hp.get? (hp.objs.size + 1) = some o := X _ _ q
      exact absurd (Nat.lt_of_succ_lt (Heap.lt_size z)) (Nat.lt_irrefl _)
  refine call_own PySem.F.excBase_Exception hT hC (looks_findIn X T.iC) (fun self => bind_fn X self T.tI) hsz ?_
  refine T.init (s := ⟨(hp.push (kdv_tup vs)).push (excO C hp.objs.size), g, dr, tk, os⟩) hl (X.keeps kp) (hlim.keeps kp) hget hnx hroom fun h' tk' dx D => ?_
  have z : hp.objs.size + 1 + 1 ≤ dx := by
    have q := D.dbig
    dsimp only at q
    rw [Heap.size_push, Heap.size_push] at q
    exact q
  exact ⟨rfl, hq h' tk' (hp.objs.size + 1) dx ⟨fun b o q => D.keep b o (Nat.ne_of_lt (Nat.lt_succ_of_lt (Heap.lt_size q))) (kp b o q), Nat.le_succ _, ⟨_, _, D.obj, rfl, rfl, rfl, rfl⟩, Nat.le_trans (Nat.le_trans (Nat.le_succ _) (Nat.le_succ _)) z, D.dne, D.ns⟩⟩
theorem relO_zip : ∀ {vs : List V} {us : List Value} (fs : List Str) (f : Str), Vals vs us → RelO ((fs.zip vs).lookup f) ((fs.zip us).lookup f) := by
  intro vs us fs f h
  induction fs generalizing vs us with
  | nil => trivial
  | cons n fs ih =>
    cases h with
    | nil => trivial
    | cons h1 h2 =>
      rw [List.zip_cons_cons, List.zip_cons_cons]
      cases q : f == n with
      | true =>
        simp only [List.lookup, q]
        exact h1
      | false =>
        simp only [List.lookup, q]
        exact ih h2
section
variable {X : Cx} {C fI : Addr} {x : Str} {fs : List Str}
/-- C(..) of an own class of exceptions -/
def tMkX (C : Addr) (fs : List Str) (ta : TA) : L2.St → Hp → XK → Prop := fun σ H Q => ta σ H fun vs H1 => vs.length = fs.length ∧ vs.length ≤ sizeLine ∧ ∀ d, H1 d = none → Q (.ref C) (some d) (upd H1 d (.xd (fs.zip vs)))
theorem pmk_x {e : Expr} {es : List Expr} {ta : TA} {p pos : Pos} {k : Nat} (T : XCls X.K X.mg x C fI fs) (hr : Room k X.A) (ha : PA X (e :: es) ta) (hg : Gl X x := by rfl)
    (hdb : (x == ("__debug__" : Str)) = false := by decide) (he : starEach (e :: es) X.env = (false, eval e X.env) :: starEach es X.env := by rfl) (hpl : (backTo pos (starEach es X.env)).any (·.1) = false := by rfl) :
    PMk X (.Call (.Name x p) (e :: es) [] pos) (tMkX C fs ta) := by
  intro pins s σ H Q I h
  refine wpAny_Call_Name_kw (ld_glob I hg T.gC ?_ hdb)
  refine callWith_K (h₀ := X.base) I.ok.mod.kin T.kC (thn (ha.run pos pins s σ H _ I h) fun us s1 hh => ?_) he hpl
  obtain ⟨vs, H1, I1, r1, hl, hsz, q1⟩ := hh
  refine ⟨I1.kIn, ?_⟩
  have hlu : us.length = vs.length := r1.length.symm
  have hlim := I1.nolimit
  obtain ⟨hp, g, dr, tk, os⟩ := s1
  refine wpAny_call (x_made T (vs := us) (by rw [hlu]; exact hl) (by rw [hlu]; exact hsz) I1.kIn hlim (by have := hr.dp; omega) fun h' tk' e d M => ?_)
  show MkP X pins σ Q (.ref e) ⟨h', g, dr, tk', os⟩
  obtain ⟨oe, fv, hoe, hc, hd, hdat, h1⟩ := M.obj
  have hns := M.ns
  obtain ⟨G', g1, g2⟩ := restrict h' fun b => decide (b ≠ e)
  have gk : ∀ b, b ≠ e → G'.get? b = h'.get? b := fun b hb => g1 b (decide_eq_true hb)
  have ge : G'.get? e = none := g2 e (by simp)
  have old : ∀ b o, hp.get? b = some o → G'.get? b = some o := fun b o q => (gk b (Nat.ne_of_lt (Nat.lt_of_lt_of_le (Heap.lt_size q) M.new))).trans (M.keep b o q)
  have ob : ObjOk X.prog X.w (upd H1 d (.xd (fs.zip vs))) G' d (.xd (fs.zip vs)) :=
    ⟨_, hns.at (fun o q => (gk d M.dne).trans q), fun f => relO_zip fs f r1⟩
  have J : Inv X pins σ (upd H1 d (.xd (fs.zip vs))) ⟨G', g, dr, tk', os⟩ := I1.laid (t' := tk') old M.dbig ob
  refine ⟨e, oe, fv, ⟨G', g, dr, tk', os⟩, _, .ref C, some d, rfl, J, fun b o q => ?_, ge, hoe, ⟨hc, hd⟩, hdat, h1, ?_, rfl, I1.bare, raises_own T.ex T.tyC, q1 d (I1.hok.fresh M.dbig)⟩
  · by_cases hb : b = e
    · have q' : G'.get? b = some o := q
      rw [hb, ge] at q'; cases q'
    · exact (gk b hb).symm.trans q
  · rw [upd_ne (Ne.symm M.dne)]
    exact I1.hok.fresh M.new
/-! ### raise -/
def sRaise (k n : Nat) (f : FA) : FO := fun s => (f s).stm fun ds s => if ds.length = n then .exc k ds s else .bad
theorem lookups : ∀ {fs : List Str} {vs : List V}, fs.Nodup → vs.length = fs.length → fs.map (fun n => (fs.zip vs).lookup n) = vs.map some
  | [], [], _, _ => rfl
  | [], _ :: _, _, h => by cases h
  | _ :: _, [], _, h => by cases h
  | n :: fs, v :: vs, hn, h => by
    obtain ⟨h1, h2⟩ := List.nodup_cons.mp hn
    have ih := lookups (fs := fs) (vs := vs) h2 (Nat.succ.inj h)
    rw [List.map_cons, List.map_cons, ← ih]
    congr 1
    · simp [List.lookup]
    · apply List.map_congr_left
      intro m hm
      have z : (m == n) = false := by
        have : m ≠ n := fun e => h1 (e ▸ hm)
        simpa using this
      rw [List.zip_cons_cons, List.lookup_cons, z]
theorem kRaise {ex : ExT} {W : WX} {e : Expr} {es : List Expr} {f : FA} {p pos pos2 : Pos} {kr k n : Nat} (hc : X.calm = true) (tk : Takes X W) (T : XCls X.K X.mg x C fI fs) (hex : ex k = some (C, fs)) (hn : fs.length = n) (hnd : fs.Nodup) (hns : n ≤ sizeLine) (hr : Room kr X.A)
    (ha : PA X (e :: es) (tA X.K ex W f)) (hg : Gl X x := by rfl)
    (hdb : (x == ("__debug__" : Str)) = false := by decide) (he : starEach (e :: es) X.env = (false, eval e X.env) :: starEach es X.env := by rfl) (hpl : (backTo pos (starEach es X.env)).any (·.1) = false := by rfl) :
    PS X (.Raise (some (.Call (.Name x p) (e :: es) [] pos)) none pos2) (tS X.K ex W (sRaise k n f)) := by
  refine PS.imp (ps_raise hc tk (pmk_x T hr ha hg hdb he hpl)) fun En σ H ⟨c, G, s, r, h⟩ => ?_
  show tA X.K ex W f σ H _
  refine soA r h fun ds s1 G1 H1 vs e1 r1 hv h1 => ?_
  split at h1
  case isTrue hl =>
    have hvl := hv.len
    refine ⟨by omega, by omega, fun d hd => ?_⟩
    refine h1 (.ref C) (some d) σ G1 (upd H1 d (.xd (fs.zip vs))) (Same.refl _) (r1.allocOwn hd) ⟨C, fs, d, fs.zip vs, vs, hex, rfl, rfl, upd_same, lookups hnd (by omega), hv⟩
  case isFalse => exact h1.elim
end
end PD
namespace PD
open PySem PySem.Spec L2
open PyProof.Rows hiding St
variable [WI]
/-! ### try .. except X as n: return e -/
/-- a slot is emptied or taken by what the state does not tell of -/
theorem Rel.over {K : PySem.W.Frag} {c : Act} {G H : Hp} {σ : L2.St} {s : S} (r : Rel K c G H σ s) (i : Nat) (x : Option V) : Rel K c G H (σ.set i x) (s.drop i) := by
  have hl := r.len
  have key : ∀ (j : Nat) e, (s.ρ.set i none)[j]? = some (some e) → i ≠ j ∧ s.ρ[j]? = some (some e) := fun j e q => by
    by_cases h : i = j
    · subst h
      by_cases hl : i < s.ρ.length
      · rw [List.getElem?_set_self hl] at q
        cases q
      · rw [List.set_eq_of_length_le (by omega), List.getElem?_eq_none (by omega)] at q
        cases q
    · exact ⟨h, by rwa [List.getElem?_set_ne h] at q⟩
  refine ⟨r.b, by simpa using r.len, fun j e q => ?_, fun i' j v n ⟨e1, h1, b1⟩ ⟨e2, h2, b2⟩ => ?_⟩
  · obtain ⟨n, q⟩ := key j e q
    obtain ⟨v, hv, he⟩ := r.slot j e q
    exact ⟨v, by rw [List.getElem?_set_ne n]; exact hv, he⟩
  · obtain ⟨n1, q1⟩ := key _ _ h1
    obtain ⟨n2, q2⟩ := key _ _ h2
    rw [List.getElem?_set_ne n1, List.getElem?_set_ne n2]
    exact r.sep i' j v n ⟨e1, q1, b1⟩ ⟨e2, q2, b2⟩
def HV (K : PySem.W.Frag) (ex : ExT) (k i : Nat) (te : Addr → Value → Option Addr → TE) (g : List D → D) : Prop :=
  ∀ {c : Act} {G : Hp} {σ : L2.St} {H : Hp} {s : S} {as : List D} {cls : Value} {dx : Option Addr} {a : Addr} {Q : VK}, Rel K c G H σ s → i < σ.length → σ[i]? = some (some (.ref a)) → ExcIs K ex k as cls dx G H →
    (∀ v G' H', Same G G' → Rel K c G' H' σ s → ExcIs K ex k as cls dx G' H' → Dp K G' v (g as) → Q v H') → te a cls dx σ H Q
def HVA (K : PySem.W.Frag) (ex : ExT) (k i : Nat) (te : Addr → Value → Option Addr → TA) (g : List D → List D) : Prop :=
  ∀ {c : Act} {G : Hp} {σ : L2.St} {H : Hp} {s : S} {as : List D} {cls : Value} {dx : Option Addr} {a : Addr} {Q : List V → Hp → Prop}, Rel K c G H σ s → i < σ.length → σ[i]? = some (some (.ref a)) → ExcIs K ex k as cls dx G H →
    (∀ vs G' H', Same G G' → Rel K c G' H' σ s → ExcIs K ex k as cls dx G' H' → DpAll K G' vs (g as) → Q vs H') → te a cls dx σ H Q
def fldD (j : Nat) (as : List D) : D := (as[j]?).getD .none
section
variable {K : PySem.W.Frag} {ex : ExT} {k i : Nat} {C : Addr} {fs : List Str}
theorem hv_fld {f : Str} {j : Nat} (hex : ex k = some (C, fs)) (hj : fs[j]? = some f) : HV K ex k i (fun a cls d => tXf a cls d C f (tVar i)) (fldD j) := by
  intro c G σ H s as cls dx a Q r _ ha E hQ
  obtain ⟨C', names, d, fl, vs, e1, e2, e3, e4, e5, e6⟩ := id E
  rw [hex] at e1
  cases e1
  have q : (fs.map fun n => fl.lookup n)[j]? = (vs.map some)[j]? := by rw [e5]
  rw [List.getElem?_map, hj, List.getElem?_map] at q
  cases hv : vs[j]? with
  | none => rw [hv] at q; cases q
  | some v =>
    rw [hv] at q
    have q2 : fl.lookup f = some v := by simpa using q
    obtain ⟨d2, h1, h2⟩ := e6.getV hv
    refine ⟨_, ha, rfl, e2, d, fl, v, e3, e4, q2, hQ v G H (Same.refl _) r E ?_⟩
    unfold fldD
    rw [h1]
    exact h2
theorem hv_c {v : V} {d : D} (h : ∀ G, Dp K G v d) : HV K ex k i (fun _ _ _ => tC v) (fun _ => d) := fun r _ _ E hQ => hQ v _ _ (Same.refl _) r E (h _)
theorem hva_nil : HVA K ex k i (fun _ _ _ => tNil) (fun _ => []) := fun r _ _ E hQ => hQ [] _ _ (Same.refl _) r E .nil
theorem hva_cons {te : Addr → Value → Option Addr → TE} {ta : Addr → Value → Option Addr → TA} {g : List D → D} {ga : List D → List D} (h : HV K ex k i te g) (h2 : HVA K ex k i ta ga) : HVA K ex k i (fun a cls d => tCons (te a cls d) (ta a cls d)) (fun as => g as :: ga as) := by
  intro c G σ H s as cls dx a Q r hl ha E hQ
  exact h r hl ha E fun v G1 H1 e1 r1 E1 hv => h2 r1 hl ha E1 fun vs G2 H2 e2 r2 E2 hvs => hQ _ G2 H2 (e1.trans e2) r2 E2 (.cons (hv.up e2) hvs)
theorem ExcIs.up {as : List D} {cls : Value} {dx : Option Addr} {G H G' H' : Hp} (E : ExcIs K ex k as cls dx G H) (hG : Same G G') (hH : ∀ d o, H d = some o → H' d = some o) : ExcIs K ex k as cls dx G' H' := by
  obtain ⟨C', names, d, fl, vs, e1, e2, e3, e4, e5, e6⟩ := E
  exact ⟨C', names, d, fl, vs, e1, e2, e3, hH _ _ e4, e5, e6.up hG⟩
theorem hv_tup {ta : Addr → Value → Option Addr → TA} {ga : List D → List D} (h : HVA K ex k i ta ga) (hn : ∀ as, (ga as).length ≤ sizeLine) : HV K ex k i (fun a cls d => tTup (ta a cls d)) (fun as => .tuple (ga as)) := by
  intro c G σ H s as cls dx a Q r hl ha E hQ
  exact h r hl ha E fun vs G1 H1 e1 r1 E1 hvs => ⟨by rw [hvs.len]; exact hn as, fun p hp => by
    obtain ⟨q1, q2, q3⟩ := r1.newTup hp hvs
    exact hQ _ _ _ (e1.trans q1) q2 (E1.up q1 fun d o e => by rw [upd_ne (ne_of_none e hp)]; exact e) q3⟩
end
/-- body, else what is made of the fields of the exception of kind k -/
def sTryF (k i : Nat) (fb : FO) (g : List D → D) : FO := fun s => match fb s with
  | .exc k' as s' => if k' = k ∧ i < s'.ρ.length then .rt (g as) (s'.drop i) else .bad
  | o => o
section
variable {X : Cx} {ex : ExT} {Wout : WX} {x n : Str} {C fI : Addr} {fs : List Str} {k i : Nat} {body : List Stmt} {e : Expr} {fb : FO} {g : List D → D} {te : Addr → Value → Option Addr → TE} {np rp pos pos' : Pos}
theorem kTryF (hs : X.stack = X.env :: X.outer) (hf : X.env.frame = some X.env.locals) (hN : X.N.Nodup) (hi : X.N[i]? = some n) (hln : X.env.kindOf n = some .local) (T : XCls X.K X.mg x C fI fs) (hex : ex k = some (C, fs)) (tk : Takes X Wout)
    (hb : ∀ (W : WX) (pn : List (Addr × Obj)) (xe : Value → Shared → Prop), Takes (X.tr pn xe) W → PSs (X.tr pn xe) body (tS X.K ex W fb))
    (hsu : ∀ (a : Addr) (oe : Obj) (cls : Value) (d : Option Addr) (pn : List (Addr × Obj)), Zc cls d oe → (∃ vs, oe.data = .fields vs) → PE (X.suite a ((a, oe) :: pn)) e (te a cls d))
    (hv : HV X.K ex k i te g) (hg : Gl X x := by rfl) (hdb : (x == ("__debug__" : Str)) = false := by decide) :
    PS X (.Try body [.ExceptHandler (some (.Name x np)) (some n) [.Return (some e) rp] pos'] [] [] pos) (tS X.K ex Wout (sTryF k i fb g)) := by
  refine PS.imp (ps_try_as (tb := fun W => tS X.K ex W fb) (ts := fun a cls d => tRet (te a cls d)) (Wout := Wout) hs hf hN hi hln ⟨hg, hdb, .inl T.gC⟩ tk (fun W pn xe tk' _ => hb W pn xe tk') (fun a oe cls d pn hz hf' => pss_one (ps_ret (hsu a oe cls d pn hz hf')))) fun En σ H ⟨c, G, s, r, h⟩ => ?_
  refine ⟨c, G, s, r, ?_⟩
  unfold sTryF at h
  cases hfb : fb s with
  | nx s' => rw [hfb] at h; exact h
  | rt d s' => rw [hfb] at h; exact h
  | bk s' => rw [hfb] at h; exact h
  | ct s' => rw [hfb] at h; exact h
  | bad => rw [hfb] at h; exact h.elim
  | exc k' as s' =>
    rw [hfb] at h
    dsimp only at h
    split at h
    case isFalse => exact h.elim
    case isTrue hk =>
      obtain ⟨rfl, hl⟩ := hk
      intro cls dx σ' G' H' eG r' E
      have hcls : cls = .ref C := by
        obtain ⟨C', names, d, fl, vs, e1, e2, e3, e4, e5, e6⟩ := E
        rw [hex] at e1
        cases e1
        exact e2
      subst hcls
      refine ⟨true, T.te, fun _ a ha => ?_, fun q => nomatch q⟩
      have r2 := r'.over i (some (.ref a))
      have hl' : i < σ'.length := by rw [← r'.len]; exact hl
      refine hv r2 (by rw [List.length_set]; exact hl') (List.getElem?_set_self hl') E fun v G2 H2 e2 r3 _ hd => ?_
      exact h v _ G2 H2 (eG.trans e2) r3 hd
end
end PD
namespace PD
open PySem PySem.Spec L2
open PyProof.Rows hiding St
variable [WI]
/-- a local of a def of the class is read -/
theorem ldX {M : Model} {s : Shared} {name : Str} {scope : Scope} {L a : Addr} {cd : Value} {m : Str → Option Value} {x : Str} {pos : Pos} {v : Value} {Q : Value → Shared → Prop} {A : Around} {E : Value → Shared → Prop} (hn : s.heap.Ns L m) (hv : m x = some v) (h : Q v s)
    (hk : scope.kind = .function := by rfl) (hl : (PyProof.Rows.envOfC name scope L a cd).kindOf x = some .local := by rfl) (hd : (x == ("__debug__" : Str)) = false := by decide) :
    wpAny M A (eval (.Name x pos) (PyProof.Rows.envOfC name scope L a cd)) Q E s := wpAny_Name (wpAny_loadName_local hk hl hn hv h) hd
end PD
namespace PD
open PySem PySem.Spec L2
open PyProof.Rows hiding St
variable [WI]
theorem xf_mk {K : PySem.W.Frag} {C : Addr} (h1 : PySem.W.findIn K (.ref C) "__getattribute__" = some (some (.builtin "BaseException.__getattribute__"))) (h2 : PySem.W.findIn K (.ref C) "__getattr__" = some none)
    (h3 : PySem.W.subIn K (.ref C) (.type "BaseException") = some true) (h4 : PySem.W.hasDictIn K C = true) : xfB K C = true := by
  unfold xfB
  rw [decide_eq_true h1, decide_eq_true h2, decide_eq_true h3, h4]
  rfl
/-- what «except S» names -/
theorem te_mk {K : PySem.W.Frag} {S : Addr} (h1 : PySem.W.subIn K (.ref S) (.type "BaseException") = some true) (h2 : PySem.W.isClsIn K S = true) (h3 : PySem.W.typeIn K (.ref S) = some (.type "type")) (h4 : PySem.W.subIn K (.ref S) (.ref S) = some true) :
    PySem.W.exmOne K (.ref S) (.ref S) = some true := by
  have a : (PySem.W.subIn K (.ref S) (.type "BaseException") == some true) = true := by rw [h1]; rfl
  have b : ((PySem.W.clsIn K S).isSome && PySem.W.typeIn K (.ref S) == some (.type "type")) = true := by
    have z : (PySem.W.clsIn K S).isSome = true := h2
    rw [z, h3]; rfl
  show (if (PySem.W.subIn K (.ref S) (.type "BaseException") == some true) = true then (if ((PySem.W.clsIn K S).isSome && PySem.W.typeIn K (.ref S) == some (.type "type")) = true then PySem.W.subIn K (.ref S) (.ref S) else none) else none) = some true
  rw [if_pos a, if_pos b, h4]
end PD
/-! PD12: enumerate over lists and tuples, with a start or without; zip; isinstance. -/
namespace PD
open PySem PySem.Spec L2
open PyProof.Rows hiding St
variable [WI]
/-! ### enumerate(v) of anything that begins -/
section
open Sem (wp)
open AutoSeq1 (wpAny_loadPart')
abbrev enObj (it : Addr) (k : Int) : Obj := { cls := .type "enumerate", data := .fields #[.none, .bool false, .ref it, rawInt k, .none, .none] }
set_option maxHeartbeats 1000000 in
theorem enumMeets1 {v : Value} {ob : Obj} {Hs : Heap → Prop} (B : Begins v ob Hs) :
    Meets (Builtin.«enumerate.__new__» ⟨[.type "enumerate", v], []⟩) (fun _ R s => Hs s.heap ∧ R (.ok (.ret (.ref (s.heap.push ob).objs.size))) { s with heap := (s.heap.push ob).push (enObj s.heap.objs.size 0) }) :=
  .of_wp fun prog w A R s hh => by
    obtain ⟨hp, g, d, tk, os⟩ := s
    obtain ⟨hb, hh⟩ := hh
    have se := sub_enumerate
    have it1 : ∀ {A1 : Around} {E1 : Value → Shared → Prop} {Q1 : Value → Shared → Prop}, Q1 (.ref hp.objs.size) ⟨hp.push ob, g, d, tk, os⟩ → wpAny (model prog w) A1 (pyIter v) Q1 E1 ⟨hp, g, d, tk, os⟩ := fun q => B.iter prog w _ _ _ _ hb q
    wp_walk using it1
    refine wpAny_stack_any fun below => wpAny_pure ?_
    split
    · rename_i cl _ _ _ _ _
      cases (cl == Value.type "enumerate") <;> (wp_walk using it1; exact ⟨_, rfl, hh⟩)
    · wp_walk using it1
      exact ⟨_, rfl, hh⟩
variable {prog : Program} {w : World} {A : Around} {E : Value → Shared → Prop} {s : Shared}
theorem enumCall1 {v : Value} {ob : Obj} {Hs : Heap → Prop} {Q : Value → Shared → Prop} (B : Begins v ob Hs) (h1 : Hs s.heap)
    (h : ∀ h', IsEnum h' (s.heap.objs.size + 1) s.heap.objs.size 0 .none → h'.get? s.heap.objs.size = some ob → h'.objs.size = s.heap.objs.size + 2 →
      (∀ b o, s.heap.get? b = some o → h'.get? b = some o) → Q (.ref (s.heap.objs.size + 1)) { s with heap := h' }) :
    wpAny (model prog w) A (call (.type "enumerate") [v]) Q E s := by
  refine callType_new F.called_enumerate (by decide) (F.typeCall_enumerate_1 _) (F.newCall_enumerate_1 _) (fun o => F.args_object_init_2 o _) F.entry_enumerate_new (enumMeets1 B) ⟨h1, ?_⟩
  have sz : (s.heap.push ob).objs.size = s.heap.objs.size + 1 := Heap.size_push ..
  have he : ((s.heap.push ob).push (enObj s.heap.objs.size 0)).get? (s.heap.objs.size + 1) = some (enObj s.heap.objs.size 0) := by
    have z := Heap.get?_push_size (s.heap.push ob) (o := enObj s.heap.objs.size 0) rfl
    rw [sz] at z
    exact z
  show _ ∧ _
  rw [sz]
  refine ⟨⟨_, he, rfl⟩, h _ he ?_ ?_ fun b o e => Heap.get?_push_of_some _ (Heap.get?_push_of_some _ e)⟩
  · exact Heap.get?_push_of_some _ (Heap.get?_push_size _ B.free)
  · rw [Heap.size_push, sz]
end
end PD
namespace PD
open PySem PySem.Spec L2
open PyProof.Rows hiding St
variable [WI]
/-- a sequence at a, its iterators -/
structure SeqK (P : Program) (w : World) (K : PySem.W.Frag) (a : Addr) (Sq : Hp → List V → Prop) (isIt : Heap → Addr → Nat → Prop) (isX : Heap → Array Value → Prop) : Prop where
  get : ∀ {X : Cx} {pins : List (Addr × Obj)} {σ : L2.St} {H : Hp} {s : Shared} {xs : List V}, X.prog = P → X.w = w → X.K = K → Inv X pins σ H s → Sq H xs → ∃ its : List Value, Vals xs its ∧ isX s.heap its.toArray
  inj : ∀ {X : Cx} {pins : List (Addr × Obj)} {σ : L2.St} {H : Hp} {s : Shared} {xs ys : List V}, X.prog = P → X.w = w → X.K = K → Inv X pins σ H s → Sq H xs → Sq H ys → xs = ys
  draws : ∀ {A : Around} (it : Addr), A.handled = none → a ≠ it → ∀ items : Array Value, Draws P w A it [it, a] items.size (fun i v => items[i]? = some v) (fun i h => isIt h it i ∧ isX h items)
  objX : ∀ {h : Heap} {items : Array Value}, isX h items → ∃ o n, h.get? a = some o ∧ o.cls = .type n ∧ n ≠ "enumerate"
  keepI : ∀ {h h' : Heap} {it : Addr} {i : Nat}, isIt h it i → (∀ o, h.get? it = some o → h'.get? it = some o) → isIt h' it i
  objI : ∀ {h : Heap} {it : Addr} {i : Nat}, isIt h it i → ∃ o, h.get? it = some o ∧ ∀ v, o.data ≠ .cell v
  apart : ∀ {h : Heap} {it : Addr} {i : Nat} {items : Array Value}, isIt h it i → isX h items → a ≠ it
theorem seqK_list {P : Program} {w : World} {K : PySem.W.Frag} {a : Addr} : SeqK P w K a (fun H xs => SqL K H a xs) (fun h it i => h.IsListIter it a i) (fun h items => h.IsList a items) where
  get := fun hP hw hK I q => by
    subst hP hw hK
    obtain ⟨its, rv, p, _⟩ := I.list q
    exact ⟨its, rv, p.isList⟩
  inj := fun hP hw hK I q q' => by
    subst hP hw hK
    exact I.list_inj q q'
  draws := fun it hh hne items => Draws.list hh it a hne items
  objX := fun ⟨o, e, c, _⟩ => ⟨o, _, e, c, by decide⟩
  keepI := fun h k => h.at fun o e => k o e
  objI := fun ⟨o, e, _, d⟩ => ⟨o, e, fun v q => by rw [d] at q; cases q⟩
  apart := fun ⟨o, e, c, _⟩ ⟨o', e', c', _⟩ q => by
    rw [q, e] at e'
    cases e'
    rw [c] at c'
    injection c' with c'
    exact absurd c' (by decide)
theorem seqK_tup {P : Program} {w : World} {K : PySem.W.Frag} {a : Addr} : SeqK P w K a (fun H xs => SqT K H a xs) (fun h it i => h.IsTupleIter it a i) (fun h items => h.IsTuple a items) where
  get := fun hP hw hK I q => by
    subst hP hw hK
    obtain ⟨its, rv, p, _⟩ := I.tuple q
    exact ⟨its, rv, p⟩
  inj := fun hP hw hK I q q' => by
    subst hP hw hK
    exact I.tuple_inj q q'
  draws := fun it hh hne items => Draws.tuple hh it a hne items
  objX := fun ⟨o, e, c, _⟩ => ⟨o, _, e, c, by decide⟩
  keepI := fun h k => h.at fun o e => k o e
  objI := fun ⟨o, e, _, d⟩ => ⟨o, e, fun v q => by rw [d] at q; cases q⟩
  apart := fun ⟨o, e, c, _⟩ ⟨o', e', c', _⟩ q => by
    rw [q, e] at e'
    cases e'
    rw [c] at c'
    injection c' with c'
    exact absurd c' (by decide)
/-- the sequence as it stands, numbered from k, the pairs new -/
def ItEn (Sq : Hp → List V → Prop) (k : Int) : It :=
  ⟨fun i H => ∃ xs x, Sq H xs ∧ xs[i]? = some x,
    fun i H v H' => ∃ T x, v = .ref T ∧ H T = none ∧ H' = upd H T (.tup [.int (k + (i : Int)), x]) ∧ ∀ xs, Sq H xs → xs[i]? = some x,
    fun i H => ∃ xs, Sq H xs ∧ xs.length = i⟩
theorem turn_en {P : Program} {w : World} {K : PySem.W.Frag} {elts : List Expr} {kk : Nat} {tpos : Pos} {a e it : Addr} {Sq : Hp → List V → Prop} {isIt : Heap → Addr → Nat → Prop} {isX : Heap → Array Value → Prop} (k : Int) (Z : SeqK P w K a Sq isIt isX) :
    Turn P w K (.Tuple elts kk tpos) (ItEn Sq k) [e, it] e (fun i h => (∃ old, IsEnum h e it (k + (i : Int)) old) ∧ isIt h it i ∧ e ≠ it) where
  mem := List.mem_cons_self
  obj := fun i h ⟨⟨old, he⟩, hi, _⟩ b hb => by
    rcases List.mem_cons.mp hb with rfl | hb
    · exact ⟨_, he, fun v q => nomatch q⟩
    · rw [List.mem_singleton.mp hb]
      exact Z.objI hi
  keep := fun i h h' ⟨⟨old, he⟩, hi, hne⟩ kp => ⟨⟨old, kp e (by simp) _ he⟩, Z.keepI hi fun o q => kp it (by simp) o q, hne⟩
  item := by
    intro X hP hw hK hc i pins s σ H E I hf ⟨⟨old, he⟩, hi, hne⟩ ⟨xs, x, hq, hx⟩
    obtain ⟨its, rv, p⟩ := Z.get hP hw hK I hq
    obtain ⟨u, hu, ru⟩ := rv.get hx
    have hel : e < s.heap.objs.size := Heap.lt_size he
    have hil : it < s.heap.objs.size := by obtain ⟨_, q, _⟩ := Z.objI hi; exact Heap.lt_size q
    have hea : e ≠ a := fun q => by
      obtain ⟨o, n, e1, c1, n1⟩ := Z.objX p
      rw [← q, he] at e1
      cases e1
      cases c1
      exact n1 rfl
    have hlt : i < its.toArray.size := by
      rw [List.size_toArray]
      exact (List.getElem?_eq_some_iff.mp hu).1
    have D := Z.draws (A := X.A.in1) it (show X.A.in1.handled = none from I.ok.hd hc) (Z.apart hi p) its.toArray
    refine wpAny_pyNext_enum_itemC (c := k + (i : Int)) D he ⟨hi, p⟩ hlt hne (by simp [hne, hea]) fun y h' tk hy ho hs' hT hsz hk => ?_
    have hyu : y = u := by
      have hy : its.toArray[i]? = some y := hy
      rw [List.getElem?_toArray, hu] at hy
      exact (Option.some.inj hy).symm
    subst hyu
    refine ⟨_, rfl, wpAny_letOwnedTupleGo_enum (s := { s with heap := h', toks := tk + 1 }) ho fun h'' he' sb => ?_⟩
    have hT2 : h''.get? s.heap.objs.size = some { cls := .type "tuple", data := .seq #[.int (k + (i : Int)) tk, y] } := (sb.2 _ (Nat.ne_of_gt hel)).trans hT
    have nw : ObjOk X.prog X.w (upd H s.heap.objs.size (.tup [.int (k + (i : Int)), x])) h'' s.heap.objs.size (.tup [.int (k + (i : Int)), x]) :=
      ⟨by show 2 ≤ sizeLine; decide, [.int (k + (i : Int)) tk, y], .cons ⟨_, rfl⟩ (.cons ru .nil), ⟨_, hT2, rfl, _, rfl⟩⟩
    have I1 : Inv X pins σ (upd H s.heap.objs.size (.tup [.int (k + (i : Int)), x])) { s with heap := h'', toks := tk + 1 } :=
      I.turnedNew (ch := [e, it]) (fun b ob hb q => (sb.2 b (fun z => hb (by simp [z]))).trans (hk b ob (fun z => hb (by simp [z])) (fun z => hb (by simp [z])) q)) hf (Nat.le_refl _) nw
    refine ⟨.ref s.heap.objs.size, _, I1, rfl, ⟨_, x, rfl, I.hok.fresh (Nat.le_refl _), rfl, fun ys hys => by rw [Z.inj hP hw hK I hys hq]; exact hx⟩, ⟨⟨y, ?_⟩, Z.keepI hs'.1 fun o q => (sb.2 it (Ne.symm hne)).trans q, hne⟩, fun b hb => ?_⟩
    · have e1 : k + ((i + 1 : Nat) : Int) = k + (i : Int) + 1 := by omega
      rw [e1]
      exact he'
    · have hb' : b < s.heap.objs.size := by
        rcases List.mem_cons.mp hb with rfl | hb
        · exact hel
        · rw [List.mem_singleton.mp hb]; exact hil
      rw [upd_ne (Nat.ne_of_lt hb')]
      exact (hf b hb).1
  done := by
    intro X hP hw hK hc i pins s σ H E I hf ⟨⟨old, he⟩, hi, hne⟩ ⟨xs, hq, hx⟩
    subst hP hw hK
    obtain ⟨its, rv, p⟩ := Z.get rfl rfl rfl I hq
    obtain ⟨f0, f1, f2, f3, f4, f5⟩ := hf it (by simp)
    have hl := rv.length
    have D := Z.draws (A := X.A.in1) it (show X.A.in1.handled = none from I.ok.hd hc) (Z.apart hi p) its.toArray
    have hn : its.toArray.size = i := by rw [List.size_toArray]; omega
    exact wpAny_pyNext_enum_endD D he (by rw [hn]; exact ⟨hi, p⟩) fun h' eb => ⟨rfl, I.turned (t' := s.toks) (fun b o hb q => eb b o hb q) f0 f1 f3 f4 f5⟩
  self := fun A i s Q E ⟨⟨_, he⟩, _⟩ h => wpAny_pyIter_enum he h
end PD
namespace PD
open PySem PySem.Spec L2
open PyProof.Rows hiding St
variable [WI]
theorem walk_en {Sq : Hp → List V → Prop} {k : Int} {xs : List V} : Walk (ItEn Sq k) xs.length (fun H => Sq H xs) (YPair (fun i => some (.int (k + (i : Int)))) (fun i => xs[i]?)) := by
  refine ⟨fun i _ hi q => ⟨xs, xs[i], q, by simp [hi]⟩, fun _ q => ⟨xs, q, rfl⟩, fun i H v H' _ q y => ?_⟩
  obtain ⟨T, x, h1, h2, h3, h4⟩ := y
  exact ⟨T, .int (k + (i : Int)), x, h1, h2, h3, rfl, h4 xs q⟩
def enumFrom (k : Int) : List D → List D
  | [] => []
  | d :: ds => .tuple [.int k, d] :: enumFrom (k + 1) ds
theorem enumFrom_len : ∀ (ds : List D) (k : Int), (enumFrom k ds).length = ds.length
  | [], _ => rfl
  | _ :: ds, k => by rw [enumFrom, List.length_cons, List.length_cons, enumFrom_len ds]
theorem enumFrom_get : ∀ (ds : List D) (k : Int) (i : Nat) (d : D), ds[i]? = some d → (enumFrom k ds)[i]? = some (.tuple [.int (k + (i : Int)), d])
  | [], _, _, _, h => by cases h
  | d :: ds, k, 0, d', h => by
    cases h
    simp [enumFrom]
  | _ :: ds, k, i + 1, d', h => by
    have z := enumFrom_get ds (k + 1) i d' h
    rw [enumFrom, List.getElem?_cons_succ, z]
    congr 4
    omega
theorem wkEn {K : PySem.W.Frag} {G : Hp} {Sq : Hp → List V → Prop} {xs : List V} {ds : List D} {k : Int} (mono : ∀ {H H' : Hp}, Same H H' → Sq H xs → Sq H' xs) (h : Sq G xs) (hd : DpAll K G xs ds) : WkD K G (ItEn Sq k) (enumFrom k ds) := by
  have w : Walk (ItEn Sq k) xs.length (fun H => Sq H xs) (YPair (fun i => some (.int (k + (i : Int)))) (fun i => xs[i]?)) := walk_en
  unfold WkD
  rw [enumFrom_len, ← hd.len]
  refine Walk.mono w (fun H ⟨G', e, e'⟩ => mono (e.trans e') h) fun i H v H' hi _ y c G' σ s eG r => ?_
  obtain ⟨T, x, y', h1, h2, h3, h4, h5⟩ := y
  subst h1
  subst h3
  cases h4
  obtain ⟨d, q1, q2⟩ := hd.getV h5
  obtain ⟨e2, r2, d2⟩ := r.newTup (vs := [.int (k + (i : Int)), y']) (ds := [.int (k + (i : Int)), d]) h2 (.cons (.int _) (.cons (q2.up eG) .nil))
  exact ⟨_, _, e2, r2, enumFrom_get ds k i d q1, d2⟩
def fEnum (f : FE) : FA := fun s => (f s).bind fun d s => R.of ((items d).map (enumFrom 0)) s
def stD (k d : D) : Option (List D) := match k with
  | .int k => if -(2 ^ 62) ≤ k ∧ k < 2 ^ 62 then (items d).map (enumFrom k) else none
  | _ => none
def fEnumK (f g : FE) : FA := fun s => (f s).bind fun d s => (g s).bind fun k s => R.of (stD k d) s
section
variable {X : Cx} {ex : ExT} {W : WX}
theorem pi_en {Z : It → Hp → Prop} {e : Expr} {ta : TA} {p pos tpos : Pos} {elts : List Expr} {kk : Nat} (hg : Gl X "enumerate") (hm : X.mg "enumerate" = none) (ha : PA X [e] ta) (hs : starEach [e] X.env = [(false, eval e X.env)] := by rfl) :
    PI X (.Tuple elts kk tpos) (.Call (.Name "enumerate" p) [e] [] pos) (fun σ H Rr => ta σ H fun vs H1 => ∃ a, vs = [.ref a] ∧ (((∃ xs, SqL X.K H1 a xs) ∧ Rr (ItEn (fun H xs => SqL X.K H a xs) 0) H1) ∨ ((∃ xs, SqT X.K H1 a xs) ∧ Rr (ItEn (fun H xs => SqT X.K H a xs) 0) H1))) := by
  refine ⟨fun pins s σ H Rr I h => ?_⟩
  refine Call_ (ld_blt I hg hm PyProof.Rows.boot_enumerate (PyProof.Rows.callWith_type1 (thn (ha.run pos pins s σ H _ I h) fun us s1 ⟨vs, H1, I1, r1, q1⟩ => ?_) hs rfl))
  obtain ⟨a, ea, q1⟩ := q1
  subst ea
  cases r1 with
  | cons r rr =>
    cases rr
    cases r
    have fin : ∀ {Sq : Hp → List V → Prop} {isIt : Heap → Addr → Nat → Prop} {isX : Heap → Array Value → Prop} {ob : Obj} {Hs : Heap → Prop}, SeqK X.prog X.w X.K a Sq isIt isX → Begins (.ref a) ob Hs → Hs s1.heap → (∀ h' : Heap, h'.get? s1.heap.objs.size = some ob → isIt h' s1.heap.objs.size 0) → Rr (ItEn Sq 0) H1 →
        wpAny (model X.prog X.w) X.A (call (.type "enumerate") [.ref a]) (fun v s1 => wpAny (model X.prog X.w) X.A (pyIter v) (PIE X pins σ (.Tuple elts kk tpos) Rr) X.xe s1) X.xe s1 := by
      intro Sq isIt isX ob Hs Zk B hb hi0 q
      refine enumCall1 B hb fun h' he hit hsz hk => wpAny_pyIter_enum he ?_
      have I2 : Inv X pins σ H1 { s1 with heap := h' } := I1.kept (t' := s1.toks) hk
      refine ⟨s1.heap.objs.size + 1, [s1.heap.objs.size + 1, s1.heap.objs.size], _, _, H1, rfl, I2, turn_en (e := s1.heap.objs.size + 1) (it := s1.heap.objs.size) 0 Zk, ⟨⟨.none, he⟩, hi0 h' hit, Nat.succ_ne_self _⟩, fun b hb => ?_, q⟩
      have hle : s1.heap.objs.size ≤ b := by
        rcases List.mem_cons.mp hb with rfl | hb
        · exact Nat.le_add_right _ _
        · rw [List.mem_singleton.mp hb]; exact Nat.le_refl _
      exact I1.fpOk hle (I1.hok.fresh hle)
    rcases q1 with ⟨⟨xs, hq⟩, q⟩ | ⟨⟨xs, hq⟩, q⟩
    · obtain ⟨its, rv, p', _⟩ := I1.list hq
      exact fin seqK_list (begins_list a its.toArray) p'.isList (fun h' e => ⟨_, e, rfl, rfl⟩) q
    · obtain ⟨its, rv, p', _⟩ := I1.tuple hq
      exact fin seqK_tup (begins_tuple a its.toArray) p' (fun h' e => ⟨_, e, rfl, rfl⟩) q
theorem iEnum {e : Expr} {f : FE} {p pos tpos : Pos} {elts : List Expr} {kk : Nat} (hm : X.mg "enumerate" = none) (he : PE X e (tE X.K ex W f)) (hg : Gl X "enumerate" := by rfl) (hs : starEach [e] X.env = [(false, eval e X.env)] := by rfl) (hs0 : starEach [e] X.env = (false, eval e X.env) :: starEach [] X.env := by rfl) :
    PI X (.Tuple elts kk tpos) (.Call (.Name "enumerate" p) [e] [] pos) (tI X.K ex W (fEnum f)) := PI.imp (pi_en (Z := fun _ _ => True) hg hm (pa_cons he pa_nil hs0) hs) fun σ H Rr ⟨_, _, _, r, q⟩ =>
  inE r q fun d s1 G1 H1 v e1 r1 hv q1 => by
    cases d with
    | list ds =>
      cases hv with
      | lst h1 h2 => exact ⟨_, rfl, .inl ⟨⟨_, r1.b.sub.seq h1⟩, q1.val' r1 _ (wkEn (Sq := fun H xs => SqL X.K H _ xs) (fun e h => e.seq h) h1 h2)⟩⟩
    | tuple ds =>
      cases hv with
      | tup h1 h2 => exact ⟨_, rfl, .inr ⟨⟨_, sqT_mono r1.b.sub h1⟩, q1.val' r1 _ (wkEn (Sq := fun H xs => SqT X.K H _ xs) (fun e h => sqT_mono e h) h1 h2)⟩⟩
    | _ => exact q1.elim
end
end PD
namespace PD
open PySem PySem.Spec L2
open PyProof.Rows hiding St
variable [WI]
/-! ### isinstance(e, T), T a built-in class -/
def tyN : D → Option String
  | .none => some "NoneType"
  | .bool _ => some "bool"
  | .int _ => some "int"
  | .str _ => some "str"
  | .list _ => some "list"
  | .tuple _ => some "tuple"
  | .dict _ => none
def dIsi (T : String) (d : D) : Option D := (tyN d).map fun t => .bool (t == T)
theorem kitN {K : PySem.W.Frag} {T : String} (hT : T = "tuple" ∨ T = "list" ∨ T = "str") {d : D} {t : String} (h : tyN d = some t) : PySem.W.kitOne K (.type t) (.type T) = some (t == T) := by
  rcases hT with rfl | rfl | rfl <;> cases d <;> cases h <;> rfl
theorem tyx_of {K : PySem.W.Frag} {G H : Hp} {v : V} {d : D} {t : String} (h : Dp K G v d) (e : Same G H) (ht : tyN d = some t) : TyX K H v (.type t) := by
  cases h with
  | dct _ _ => cases ht
  | non => cases ht; exact .base .non
  | bl b => cases ht; exact .base (.bl b)
  | int i => cases ht; exact .base (.int i)
  | str z => cases ht; exact .base (.str z)
  | lst h1 h2 =>
    cases ht
    rcases e.seq h1 with (q | ⟨o, q⟩) | ⟨o, its, n, hk, hc, _⟩
    · exact .base (.lst q)
    · exact .base (.frz q)
    · exact .kList hk hc
  | tup h1 h2 =>
    cases ht
    rcases sqT_mono e h1 with (q | ⟨o, q⟩) | ⟨o, its, n, hk, hc, _⟩
    · exact .base (.tup q)
    · exact .fTuple q
    · exact .kTuple hk hc
section
variable {X : Cx} {ex : ExT} {W : WX}
theorem eIsi {e : Expr} {f : FE} {p p2 pos : Pos} {T : String} {x : Str} (hT : T = "tuple" ∨ T = "list" ∨ T = "str") (hm : X.mg "isinstance" = none) (hm2 : X.mg x = none) (hv : bootBuiltins x = some (.type T)) (he : PE X e (tE X.K ex W f)) (hg : Gl X "isinstance" := by rfl) (hg2 : Gl X x := by rfl)
    (hn : x ≠ "__name__" := by decide) (hdb : (x == ("__debug__" : Str)) = false := by decide)
    (hs : starEach [e, .Name x p2] X.env = (false, eval e X.env) :: starEach [.Name x p2] X.env := by rfl) (hs2 : starEach [.Name x p2] X.env = (false, eval (.Name x p2) X.env) :: starEach [] X.env := by rfl) (hpl : (backTo pos (starEach [.Name x p2] X.env)).any (·.1) = false := by rfl) :
    PE X (.Call (.Name "isinstance" p) [e, .Name x p2] [] pos) (tE X.K ex W (fB1 (dIsi T) f)) :=
  PE.imp (pe_callB call_isi hg hm PyProof.Rows.boot_isinstance (pa_cons he (pa_cons (pe_bltn (v := .ty T) hg2 hm2 hv rfl hn hdb) pa_nil hs2) hs) (by decide) (by decide) hs hpl) fun σ H Q ⟨_, _, _, r, h⟩ =>
    inE r h fun d s1 G1 H1 v e1 r1 hv h1 => by
      cases ht : tyN d with
      | none =>
        have : dIsi T d = none := by unfold dIsi; rw [ht]; rfl
        rw [this] at h1
        exact h1.elim
      | some t =>
        have z : dIsi T d = some (.bool (t == T)) := by unfold dIsi; rw [ht]; rfl
        rw [z] at h1
        exact ⟨v, .ty T, .type t, .type T, t == T, rfl, .ty T, tyx_of hv r1.b.sub ht, kitN hT ht, h1.val r1 (.bl _)⟩
end
end PD
/-! PD13: calls that borrow lists which grow: the answer is a plain value, the lists stay the def's own. -/
namespace PD
open PySem PySem.Spec L2
open PyProof.Rows hiding St
variable [WI]
def star (c : Act) (H : Hp) : Hp := fun a => if a = c.wa then none else match H a with
  | some (.tbl _) => none
  | o => o
theorem star_ne {c : Act} {H : Hp} {a : Addr} (h : a ≠ c.wa) {o : HO} (e : H a = some o) (hn : ∀ ps, o ≠ .tbl ps) : star c H a = some o := by
  unfold star
  rw [if_neg h, e]
  cases o with
  | tbl ps => exact absurd rfl (hn ps)
  | _ => rfl
theorem star_some {c : Act} {H : Hp} {a : Addr} {o : HO} (e : star c H a = some o) : H a = some o ∧ ∀ ps, o ≠ .tbl ps := by
  unfold star at e
  split at e
  · cases e
  · split at e
    · cases e
    · rename_i h
      exact ⟨e, fun ps z => h ps (e.trans (by rw [z]))⟩
theorem star_sub {c : Act} {H : Hp} : Same (star c H) H := fun a o e => (star_some e).1
section
variable {K : PySem.W.Frag} {c : Act} {G H G' H' : Hp} {σ : L2.St} {s : S} {w' : Wst}
theorem Rel.toStar (r : Rel K c G H σ s) : Same G (star c H) := fun a o e => by
  have h : a ≠ c.wa := fun q => by
    rw [q, r.b.wf] at e
    cases e
  exact star_ne h (r.b.sub a o e) fun ps z => r.b.ng a ps (by rw [e, z])
theorem Rel.baseStar (r : Rel K c G H σ s) : Base K ⟨c.wa, c.sc, star c H, H, 0, []⟩ (star c H) H s.w :=
  ⟨star_sub, r.b.wl, if_pos rfl, r.toStar.seq r.b.scr, Same.refl _, fun _ _ e _ => e, fun _ _ _ _ e => e, (fun _ h => nomatch h), fun a ps z => (star_some z).2 ps rfl⟩
theorem Rel.lookStar {i : Nat} {d : D} (r : Rel K c G H σ s) (h : PD.look s i = some d) : ∃ v, σ[i]? = some (some v) ∧ Dp K (star c H) v d := by
  unfold PD.look at h
  split at h
  · rename_i d' hd
    obtain ⟨v, hv, he⟩ := r.slot i _ hd
    cases h
    exact ⟨v, hv, Dp.up he r.toStar⟩
  · rename_i ds hd
    obtain ⟨v, hv, p, ho, rfl, _, _, h3, h4, ⟨vs, rfl, h5⟩⟩ := r.slot i _ hd
    cases h
    exact ⟨_, hv, .lst (SqL.of (star_ne h3 h4 fun _ z => nomatch z)) (h5.up r.toStar)⟩
  · rename_i ds hd
    obtain ⟨v, hv, p, ho, rfl, _, _, h3, h4, ⟨vs, rfl, h5⟩⟩ := r.slot i _ hd
    cases h
    exact ⟨_, hv, .dct (star_ne h3 h4 fun _ z => nomatch z) (h5.up r.toStar).kvs⟩
  · cases h
theorem Rel.back (r : Rel K c G H σ s) (b : Base K ⟨c.wa, c.sc, star c H, H, 0, []⟩ G' H' w') : Rel K c G H' σ { s with w := ⟨s.w.ns, w'.k⟩ } := by
  refine ⟨⟨fun a o e => ?_, b.wl, r.b.wf, r.b.scr, r.b.g0, fun a o e n => b.h0 a o (r.b.h0 a o e n) n, r.b.n0, fun q hq => let ⟨t, g, h⟩ := r.b.tb q hq; ⟨t.exw r.b.wl b.h0, g, h⟩, r.b.ng⟩, r.len, fun i e q => ?_, r.sep⟩
  · have h : a ≠ c.wa := fun q => by
      rw [q, r.b.wf] at e
      cases e
    exact b.h0 a o (r.b.sub a o e) h
  · obtain ⟨v, hv, he⟩ := r.slot i e q
    exact ⟨v, hv, he.up (Same.refl _) fun p vs h1 h2 _ h4 _ => ⟨b.h0 p _ h1 h4, h2⟩⟩
end
def atomD : D → Bool
  | .none => true
  | .bool _ => true
  | .int _ => true
  | .str _ => true
  | _ => false
theorem Dp.atom {K : PySem.W.Frag} {G G' : Hp} {v : V} {d : D} (h : Dp K G v d) (ha : atomD d = true) : Dp K G' v d := by
  cases h with
  | non => exact .non
  | bl b => exact .bl b
  | int i => exact .int i
  | str z => exact .str z
  | lst _ _ => cases ha
  | tup _ _ => cases ha
  | dct _ _ => cases ha
theorem DpAll.atom {K : PySem.W.Frag} {G G' : Hp} : ∀ {vs : List V} {ds : List D}, DpAll K G vs ds → ds.all atomD = true → DpAll K G' vs ds
  | _, _, .nil, _ => .nil
  | _, _, .cons h t, ha => by
    rw [List.all_cons, Bool.and_eq_true] at ha
    exact .cons (Dp.atom h ha.1) (DpAll.atom t ha.2)
abbrev FB := S → Option D
abbrev FBs := S → Option (List D)
def bSlot (i : Nat) : FB := fun s => look s i
def bCst (d : D) : FB := fun _ => some d
def bAll0 : FBs := fun _ => some []
def bAll1 (f : FB) (g : FBs) : FBs := fun s => (f s).bind fun d => (g s).map fun ds => d :: ds
def tB (K : PySem.W.Frag) (f : FB) : TE := fun σ H Q => ∃ c G s d, Rel K c G H σ s ∧ f s = some d ∧ ∀ v, Dp K (star c H) v d → Q v H
def tBs (K : PySem.W.Frag) (f : FBs) : TA := fun σ H Q => ∃ c G s ds, Rel K c G H σ s ∧ f s = some ds ∧ ∀ vs, DpAll K (star c H) vs ds → Q vs H
def fCallB (n : Nat) (sem : Sem') (f : FBs) : FE := fun s => match f s with
  | none => .bad
  | some ds => if ds.length = n then
      match sem ds s.w with
      | .ret d w => if atomD d = true then .ok d { s with w := ⟨s.w.ns, w.k⟩ } else .bad
      | .exc k as w => if as.all atomD = true then .exc k as { s with w := ⟨s.w.ns, w.k⟩ } else .bad
      | .bad => .bad
    else .bad
section
variable {X : Cx} {ex : ExT} {W : WX}
theorem eBor (i : Nat) {x : Str} {pos : Pos} (hN : X.N[i]? = some x := by rfl) (hv : Vis X.env.scope x := by first | exact Or.inl rfl | exact Or.inr (Or.inl rfl) | exact Or.inr (Or.inr rfl)) (hd : (x == ("__debug__" : Str)) = false := by decide)
    (hcd : (x == ("__classdict__" : Str)) = false := by decide) : PE X (.Name x pos) (tB X.K (bSlot i)) :=
  PE.imp (pe_var hN hv hd hcd) fun σ H Q ⟨_, _, _, _, r, h, q⟩ => by
    obtain ⟨v, hv, he⟩ := r.lookStar h
    exact ⟨v, hv, q v he⟩
theorem eBorI {i : Int} {j : Nat} {pos : Pos} : PE X (.Constant (.int i) j pos) (tB X.K (bCst (.int i))) := PE.imp pe_int fun σ H Q ⟨_, _, _, _, r, h, q⟩ => by
  cases h
  exact q _ (.int i)
theorem bor0 : PA X [] (tBs X.K bAll0) := PA.imp pa_nil fun σ H Q ⟨_, _, _, _, r, h, q⟩ => by
  cases h
  exact q _ .nil
theorem bor1 {e : Expr} {es : List Expr} {f : FB} {g : FBs} (hf : PE X e (tB X.K f)) (hg : PA X es (tBs X.K g)) (hs : starEach (e :: es) X.env = (false, eval e X.env) :: starEach es X.env := by rfl) : PA X (e :: es) (tBs X.K (bAll1 f g)) :=
  PA.imp (pa_cons hf hg hs) fun σ H Q ⟨c, G, s, ds, r, h, q⟩ => by
    unfold bAll1 at h
    cases hd : f s with
    | none => rw [hd] at h; cases h
    | some d =>
      rw [hd] at h
      cases he : g s with
      | none => rw [Option.bind_some, he] at h; cases h
      | some es =>
        rw [Option.bind_some, he] at h
        cases h
        exact ⟨c, G, s, d, r, hd, fun v hv => ⟨c, G, s, es, r, he, fun vs hvs => q _ (.cons hv hvs)⟩⟩
theorem eCallB {k n : Nat} {x : Str} {sem : Sem'} {e : Expr} {es : List Expr} {f : FBs} {p pos : Pos} (F : FnD X.prog X.w X.K X.mg X.base ex k x false n sem) (hr : RoomG k X.A) (tk : Takes X W) (ha : PA X (e :: es) (tBs X.K f)) (hg : Gl X x := by rfl)
    (hdb : (x == ("__debug__" : Str)) = false := by decide) (he : starEach (e :: es) X.env = (false, eval e X.env) :: starEach es X.env := by rfl) (hpl : (backTo pos (starEach es X.env)).any (·.1) = false := by rfl) :
    PE X (.Call (.Name x p) (e :: es) [] pos) (tE X.K ex W (fCallB n sem f)) := by
  obtain ⟨fa, fd, ps, ok, hm, hk, hb⟩ := F.ex
  refine PE.imp (pe_callG ok hr hg hm hk hb (fun σ => passAt tk σ) ha hdb he hpl) fun σ H Q ⟨c, G, s, r, q⟩ => ?_
  unfold fCallB at q
  cases hf : f s with
  | none => rw [hf] at q; exact q.elim
  | some ds =>
    rw [hf] at q
    dsimp only at q
    by_cases hl : ds.length = n
    · rw [if_pos hl] at q
      refine ⟨c, G, s, ds, r, hf, fun vs hvs => ⟨c.wa, c.sc, star c H, s.w, ds, vs, r.baseStar, rfl, hl, hvs, ?_⟩⟩
      cases z : sem ds s.w with
      | ret d w' =>
        rw [z] at q
        dsimp only at q
        by_cases hd : atomD d = true
        · rw [if_pos hd] at q
          intro v G' H' b hvd
          exact q G H' (Same.refl _) (r.back b) v (Dp.atom hvd hd)
        · rw [if_neg hd] at q
          exact q.elim
      | exc k as w' =>
        rw [z] at q
        dsimp only at q
        by_cases hd : as.all atomD = true
        · rw [if_pos hd] at q
          intro cls dx G' H' b hx
          refine q cls dx G H' (Same.refl _) (r.back b) ?_
          obtain ⟨C, names, dd, fs, us, e1, e2, e3, e4, e5, e6⟩ := hx
          exact ⟨C, names, dd, fs, us, e1, e2, e3, e4, e5, DpAll.atom e6 hd⟩
        · rw [if_neg hd] at q
          exact q.elim
      | bad =>
        rw [z] at q
        exact q.elim
    · rw [if_neg hl] at q
      exact q.elim
end
end PD
namespace PD
open PySem PySem.Spec L2
open PyProof.Rows hiding St
variable [WI]
/-! ### [..] * n -/
theorem DpAll.rep {K : PySem.W.Frag} {G : Hp} {vs : List V} {ds : List D} (h : DpAll K G vs ds) : ∀ n : Nat, DpAll K G (List.replicate n vs).flatten (List.replicate n ds).flatten
  | 0 => .nil
  | n + 1 => by
    rw [List.replicate_succ, List.replicate_succ, List.flatten_cons, List.flatten_cons]
    exact h.app (DpAll.rep h n)
theorem rep_len {α : Type} (l : List α) : ∀ n : Nat, (List.replicate n l).flatten.length = l.length * n
  | 0 => rfl
  | n + 1 => by rw [List.replicate_succ, List.flatten_cons, List.length_append, rep_len l n, Nat.mul_succ, Nat.add_comm]
def repD (ds : List D) (k : D) : Option (List D) := match k with
  | .int k => if -(2 ^ 62) ≤ k ∧ k < 2 ^ 62 ∧ ds.length * k.toNat ≤ sizeLine then some (List.replicate k.toNat ds).flatten else none
  | _ => none
def fRepL (f : FA) (g : FE) : FA := fun s => (f s).bind fun ds s => if ds.length ≤ sizeLine then (g s).nox.bind fun k s => R.of (repD ds k) s else .bad
section
variable {X : Cx} {ex : ExT} {W : WX}
theorem oRepL {es : List Expr} {b : Expr} {f : FA} {g : FE} {p pos : Pos} (ha : PA X es (tA X.K ex W f)) (hg : PE X b (tE X.K ex W0 g)) : PE X (.BinOp (.List es p) .Mult b pos) (tO X.K ex W (fRepL f g)) :=
  PE.imp (pe_op op_rep (pe_lst ha) hg) fun σ H Q ⟨c, _, _, r, h⟩ => inA r h fun ds s1 G1 H1 vs e1 r1 hvs h1 => by
    by_cases hl : ds.length ≤ sizeLine
    · rw [if_pos hl] at h1
      refine ⟨by rw [hvs.len]; exact hl, fun q hq => ?_⟩
      obtain ⟨f1, f2, f3, f4⟩ := r1.b.free hq
      obtain ⟨r2, fr⟩ := r1.newOwn hq hvs
      obtain ⟨q', ws, x1, x2, b1⟩ := fr.beside
      cases x1
      have ew : ws = vs := by
        have z := b1.at_
        rw [upd_same] at z
        cases z
        rfl
      subst ew
      refine ⟨c.prot q (.lst ws), G1, s1, r2.prot b1, Post.seqN h1 fun kd s2 G2 H2 e2 r4 h4 v hv => ?_⟩
      obtain ⟨r5, b5⟩ := Rel.unprot rfl f3 f4 f2 r4
      cases kd with
      | int k =>
        cases hv
        by_cases hk : -(2 ^ 62) ≤ k ∧ k < 2 ^ 62 ∧ ds.length * k.toNat ≤ sizeLine
        · have z : repD ds (.int k) = some (List.replicate k.toNat ds).flatten := by unfold repD; exact if_pos hk
          rw [z] at h4
          refine ⟨q, k, ws, rfl, rfl, b5.at_, by omega, by omega, by rw [hvs.len]; exact hk.2.2, fun q2 hq2 => ?_⟩
          obtain ⟨r6, f6⟩ := r5.newOwn hq2 (DpAll.rep (hvs.up e2) k.toNat)
          exact h4.val' r6 _ f6
        · have z : repD ds (.int k) = none := by unfold repD; exact if_neg hk
          rw [z] at h4
          exact h4.elim
      | _ => exact h4.elim
    · rw [if_neg hl] at h1
      exact h1.elim
end
end PD
/-! PD14: texts: str(i), int(text), join, split, a text walked; enumerate with a start; a, b = e1, [..] with lists of its own. -/
namespace PD
open PySem PySem.Spec L2
open PyProof.Rows hiding St
variable [WI]
/-! ### texts -/
theorem CallR.or {X : Cx} {u : Value} {r r' : List V → Hp → VK → Prop} (h : CallR X u r) (h' : CallR X u r') : CallR X u (fun vs H Q => r vs H Q ∨ r' vs H Q) := by
  intro pins s σ H xs us Q I rs q
  rcases q with q | q
  · exact h pins s σ H xs us Q I rs q
  · exact h' pins s σ H xs us Q I rs q
def dStr : D → Option D
  | .int i => if i.natAbs.log2 < 1920 then some (.str (toString i)) else none
  | _ => none
def dIntX : D → Option D
  | .str a => if a.length ≤ 640 then (PySem.intText? a).map PyData.int else none
  | d => dIntO d
def rStrI : List V → Hp → VK → Prop := fun xs H Q => ∃ i, xs = [.int i] ∧ i.natAbs.log2 < 1920 ∧ Q (.str (toString i)) H
def rIntS : List V → Hp → VK → Prop := fun xs H Q => ∃ a n, xs = [.str a] ∧ PySem.intText? a = some n ∧ a.length ≤ 640 ∧ Q (.int n) H
theorem cd_str {K : PySem.W.Frag} : CaD K rStrI dStr := by
  intro c G H σ s x a d Q r hx e q
  cases a with
  | int i =>
    cases hx
    unfold dStr at e
    dsimp only at e
    by_cases h : i.natAbs.log2 < 1920
    · rw [if_pos h] at e
      cases e
      exact ⟨i, rfl, h, q _ G H (Same.refl _) r (.str _)⟩
    · rw [if_neg h] at e
      cases e
  | _ => cases e
theorem cd_intX {K : PySem.W.Frag} : CaD K (fun vs H Q => rIntO vs H Q ∨ rIntS vs H Q) dIntX := by
  intro c G H σ s x a d Q r hx e q
  cases a with
  | str z =>
    cases hx
    unfold dIntX at e
    dsimp only at e
    by_cases h : z.length ≤ 640
    · rw [if_pos h] at e
      cases z' : PySem.intText? z with
      | none => rw [z'] at e; cases e
      | some n =>
        rw [z'] at e
        cases e
        exact .inr ⟨z, n, rfl, z', h, q _ G H (Same.refl _) r (.int _)⟩
    · rw [if_neg h] at e
      cases e
  | _ => exact .inl (cd_int c G H σ s x _ d Q r hx e q)
section
variable {X : Cx} {ex : ExT} {W : WX} {e o : Expr} {f g : FE} {p pos apos : Pos}
theorem eStrF (hm : X.mg "str" = none) (he : PE X e (tE X.K ex W f)) (hg : Gl X "str" := by rfl) (hs : starEach [e] X.env = (false, eval e X.env) :: starEach [] X.env := by rfl) (hpl : (backTo pos (starEach [] X.env)).any (·.1) = false := by rfl) :
    PE X (.Call (.Name "str" p) [e] [] pos) (tE X.K ex W (fB1 dStr f)) := eT1 (r := rStrI) call_str_int cd_str hm he (hg := hg) (hs := hs) (hpl := hpl)
theorem eIntX (hm : X.mg "int" = none) (he : PE X e (tE X.K ex W f)) (hg : Gl X "int" := by rfl) (hs : starEach [e] X.env = (false, eval e X.env) :: starEach [] X.env := by rfl) (hpl : (backTo pos (starEach [] X.env)).any (·.1) = false := by rfl) :
    PE X (.Call (.Name "int" p) [e] [] pos) (tE X.K ex W (fB1 dIntX f)) := eT1 (r := fun vs H Q => rIntO vs H Q ∨ rIntS vs H Q) (CallR.or (r := rIntO) (r' := rIntS) call_int1 call_int_str) cd_intX hm he (hg := hg) (hs := hs) (hpl := hpl)
end
def strD : D → Option Str
  | .str i => some i
  | _ => none
def strsD : List D → Option (List Str)
  | [] => some []
  | d :: ds => (strD d).bind fun i => (strsD ds).map fun l => i :: l
theorem strsD_eq : ∀ {ds : List D} {ns : List Str}, strsD ds = some ns → ds = ns.map PyData.str
  | [], ns, h => by cases h; rfl
  | d :: ds, ns, h => by
    unfold strsD at h
    cases d with
    | str i =>
      cases z : strsD ds with
      | none => simp [strD, z] at h
      | some l =>
        simp [strD, z] at h
        subst h
        rw [strsD_eq z]
        rfl
    | _ => simp [strD] at h
@[simp] theorem strsD_map (ns : List Str) : strsD (ns.map PyData.str) = some ns := by
  induction ns with
  | nil => rfl
  | cons n ns ih => simp [strsD, strD, ih]
theorem dpStrs {K : PySem.W.Frag} {G : Hp} : ∀ (ns : List Str), DpAll K G (ns.map V.str) (ns.map PyData.str)
  | [] => .nil
  | _ :: r => .cons (.str _) (dpStrs r)
def isS {α : Type} (d : D) (k : Str → R α) : R α := match d with
  | .str z => k z
  | _ => .bad
def joinD (z : Str) (b : D) : Option D := (items b).bind fun ds => (strsD ds).bind fun ys => if (ys.map (·.length)).sum + ys.length * z.length ≤ 16777216 then some (.str (Txt.join z ys)) else none
def fJoin (f g : FE) : FE := fun s => (f s).bind fun a s => isS a fun z => (g s).bind fun b s => R.of (joinD z b) s
def splitD (z : Str) (b : D) : Option (List D) := match b with
  | .str y => if (y.length == 0) = false ∧ z.length + 2 ≤ sizeLine then some ((Txt.split z y).map PyData.str) else none
  | _ => none
def fSplit (f g : FE) : FA := fun s => (f s).bind fun a s => isS a fun z => (g s).bind fun b s => R.of (splitD z b) s
section
variable {X : Cx} {ex : ExT} {W : WX} {e o : Expr} {f g : FE} {p pos apos : Pos}
theorem eJoin (ho : PE X o (tE X.K ex W f)) (he : PE X e (tE X.K ex W g)) (hs : starEach [e] X.env = [(false, eval e X.env)] := by rfl) (hbase : attributeBase o "join" X.env (eval o X.env) = eval o X.env := by rfl) (hline : (apos.endLine == pos.line) = true := by rfl) :
    PE X (.Call (.Attribute o "join" apos) [e] [] pos) (tE X.K ex W (fJoin f g)) := PE.imp (pe_join ho he hs hbase hline) fun σ H Q ⟨_, _, _, r, h⟩ => inE r h fun d s1 G1 H1 v e1 r1 hv h1 => by
  cases d with
  | str z =>
    cases hv
    refine ⟨⟨_, rfl⟩, inE r1 h1 fun b s2 G2 H2 u e2 r2 hu h2 => ?_⟩
    cases y : joinD z b with
    | none => rw [y] at h2; exact h2.elim
    | some d' =>
      rw [y] at h2
      unfold joinD at y
      cases b with
      | list ds =>
        cases hu with
        | lst q1 q2 =>
          cases w : strsD ds with
          | none => simp [items, w] at y
          | some ys =>
            simp [items, w] at y
            obtain ⟨y1, y2⟩ := y
            subst y2
            have q3 := strsD_eq w
            subst q3
            have q4 := DpAll.of_strs q2
            subst q4
            exact ⟨z, _, ys, rfl, rfl, .inl (r2.b.sub.seq q1), y1, h2.val r2 (.str _)⟩
      | tuple ds =>
        cases hu with
        | tup q1 q2 =>
          cases w : strsD ds with
          | none => simp [items, w] at y
          | some ys =>
            simp [items, w] at y
            obtain ⟨y1, y2⟩ := y
            subst y2
            have q3 := strsD_eq w
            subst q3
            have q4 := DpAll.of_strs q2
            subst q4
            exact ⟨z, _, ys, rfl, rfl, .inr (sqT_mono r2.b.sub q1), y1, h2.val r2 (.str _)⟩
      | _ => simp [items] at y
  | _ => exact h1.elim
theorem oSplit (ho : PE X o (tE X.K ex W f)) (he : PE X e (tE X.K ex W g)) (hs : starEach [e] X.env = [(false, eval e X.env)] := by rfl) (hbase : attributeBase o "split" X.env (eval o X.env) = eval o X.env := by rfl) (hline : (apos.endLine == pos.line) = true := by rfl) :
    PE X (.Call (.Attribute o "split" apos) [e] [] pos) (tO X.K ex W (fSplit f g)) := PE.imp (pe_split ho he hs hbase hline) fun σ H Q ⟨_, _, _, r, h⟩ => inE r h fun d s1 G1 H1 v e1 r1 hv h1 => by
  cases d with
  | str z =>
    cases hv
    refine ⟨⟨_, rfl⟩, inE r1 h1 fun b s2 G2 H2 u e2 r2 hu h2 => ?_⟩
    cases b with
    | str y =>
      cases hu
      have h2 : Post X.K ex W _ G2 σ _ (R.of (if (y.length == 0) = false ∧ z.length + 2 ≤ sizeLine then some ((Txt.split z y).map PyData.str) else none) s2) := h2
      by_cases c : (y.length == 0) = false ∧ z.length + 2 ≤ sizeLine
      · rw [if_pos c] at h2
        refine ⟨z, y, rfl, rfl, c.1, c.2, fun p hp => ?_⟩
        obtain ⟨r3, hf⟩ := r2.newOwn hp (dpStrs (Txt.split z y))
        exact h2.val' r3 _ hf
      · rw [if_neg c] at h2
        exact h2.elim
    | _ => exact h2.elim
  | _ => exact h1.elim
end
/-! ### a text walked -/
def signs (z : Str) : List D := z.cps.toList.map fun c => .str ⟨#[c]⟩
def itemsX : D → Option (List D)
  | .str z => some (signs z)
  | d => items d
def fItX (f : FE) : FA := fun s => (f s).bind fun d s => R.of (itemsX d) s
theorem wkStr {K : PySem.W.Frag} {G : Hp} {z : Str} : WkD K G (Its z) (signs z) := by
  have w : Walk (Its z) z.cps.size (fun _ => True) (fun i H v H' => H' = H ∧ ∃ c, z.cps[i]? = some c ∧ v = .str ⟨#[c]⟩) := walk_str
  have hl : (signs z).length = z.cps.size := by simp [signs]
  unfold WkD
  rw [hl]
  refine Walk.mono w (fun _ _ => trivial) fun i H x H' hi _ ⟨e, cc, hx, hv⟩ c G' σ s eG r => ?_
  subst e
  subst hv
  exact ⟨G', .str ⟨#[cc]⟩, Same.refl _, r, by simp [signs, hx], .str _⟩
theorem PI.or {X : Cx} {tg e : Expr} {t t' : TI} (h : PI X tg e t) (h' : PI X tg e t') : PI X tg e (fun σ H R => t σ H R ∨ t' σ H R) := ⟨fun pins s σ H R I q => q.elim (h.run pins s σ H R I) (h'.run pins s σ H R I)⟩
section
variable {X : Cx} {ex : ExT} {W : WX} {tg : Expr}
theorem iItX {e : Expr} {f : FE} (h : PE X e (tE X.K ex W f)) : PI X tg e (tI X.K ex W (fItX f)) := PI.imp (PI.or (pi_str h) (iIt (tg := tg) h)) fun σ H Rr ⟨c, G, s, r, q⟩ => by
  have q : Post X.K ex W c G σ _ ((f s).bind fun d s => R.of (itemsX d) s) := q
  cases z : f s with
  | bad => rw [z] at q; exact q.elim
  | exc k as s1 =>
    refine .inr ⟨c, G, s, r, ?_⟩
    show Post X.K ex W c G σ _ ((f s).bind fun d s => R.of (items d) s)
    rw [z] at q ⊢
    exact q
  | ok d s1 =>
    cases d with
    | str x =>
      refine .inl ⟨c, G, s, r, ?_⟩
      rw [z] at q ⊢
      intro G1 H1 e1 r1 v hv
      cases hv
      exact ⟨x, rfl, q G1 H1 e1 r1 _ wkStr⟩
    | _ =>
      refine .inr ⟨c, G, s, r, ?_⟩
      show Post X.K ex W c G σ _ ((f s).bind fun d s => R.of (items d) s)
      rw [z] at q ⊢
      exact q
end
/-! ### enumerate(e, k) -/
section
variable {X : Cx} {ex : ExT} {W : WX}
theorem pi_enK {e e2 : Expr} {ta : TA} {p pos tpos : Pos} {elts : List Expr} {kk : Nat} (hg : Gl X "enumerate") (hm : X.mg "enumerate" = none) (ha : PA X [e, e2] ta)
    (hs : starEach [e, e2] X.env = (false, eval e X.env) :: starEach [e2] X.env := by rfl) (hpl : (backTo pos (starEach [e2] X.env)).any (·.1) = false := by rfl) :
    PI X (.Tuple elts kk tpos) (.Call (.Name "enumerate" p) [e, e2] [] pos) (fun σ H Rr => ta σ H fun vs H1 => ∃ a k, vs = [.ref a, .int k] ∧ (-(2 ^ 62) ≤ k ∧ k < 2 ^ 62) ∧ (((∃ xs, SqL X.K H1 a xs) ∧ Rr (ItEn (fun H xs => SqL X.K H a xs) k) H1) ∨ ((∃ xs, SqT X.K H1 a xs) ∧ Rr (ItEn (fun H xs => SqT X.K H a xs) k) H1))) := by
  refine ⟨fun pins s σ H Rr I h => ?_⟩
  refine Call_ (ld_blt I hg hm PyProof.Rows.boot_enumerate (PyProof.Rows.callWith_type1 (thn (ha.run pos pins s σ H _ I h) fun us s1 ⟨vs, H1, I1, r1, q1⟩ => ?_) hs hpl))
  obtain ⟨a, k, ea, hk, q1⟩ := q1
  subst ea
  cases r1 with
  | cons r rr =>
   cases rr with
   | cons r' rr =>
    cases rr
    cases r
    obtain ⟨t, rfl⟩ := r'
    have fin : ∀ {Sq : Hp → List V → Prop} {isIt : Heap → Addr → Nat → Prop} {isX : Heap → Array Value → Prop} {ob : Obj} {Hs : Heap → Prop}, SeqK X.prog X.w X.K a Sq isIt isX → Begins (.ref a) ob Hs → Hs s1.heap → (∀ h' : Heap, h'.get? s1.heap.objs.size = some ob → isIt h' s1.heap.objs.size 0) → Rr (ItEn Sq k) H1 →
        wpAny (model X.prog X.w) X.A (call (.type "enumerate") [.ref a, .int k t]) (fun v s1 => wpAny (model X.prog X.w) X.A (pyIter v) (PIE X pins σ (.Tuple elts kk tpos) Rr) X.xe s1) X.xe s1 := by
      intro Sq isIt isX ob Hs Zk B hb hi0 q
      refine enum_begins B hb (by omega) (by omega) fun h' he hit hsz hk => wpAny_pyIter_enum he ?_
      have I2 : Inv X pins σ H1 { s1 with heap := h' } := I1.kept (t' := s1.toks) hk
      have he' : IsEnum h' (s1.heap.objs.size + 1) s1.heap.objs.size (k + ((0 : Nat) : Int)) .none := by
        rw [show k + ((0 : Nat) : Int) = k by omega]
        exact he
      refine ⟨s1.heap.objs.size + 1, [s1.heap.objs.size + 1, s1.heap.objs.size], _, _, H1, rfl, I2, turn_en (e := s1.heap.objs.size + 1) (it := s1.heap.objs.size) k Zk, ⟨⟨.none, he'⟩, hi0 h' hit, Nat.succ_ne_self _⟩, fun b hb => ?_, q⟩
      have hle : s1.heap.objs.size ≤ b := by
        rcases List.mem_cons.mp hb with rfl | hb
        · exact Nat.le_add_right _ _
        · rw [List.mem_singleton.mp hb]; exact Nat.le_refl _
      exact I1.fpOk hle (I1.hok.fresh hle)
    rcases q1 with ⟨⟨xs, hq⟩, q⟩ | ⟨⟨xs, hq⟩, q⟩
    · obtain ⟨its, rv, p', _⟩ := I1.list hq
      exact fin seqK_list (begins_list a its.toArray) p'.isList (fun h' e => ⟨_, e, rfl, rfl⟩) q
    · obtain ⟨its, rv, p', _⟩ := I1.tuple hq
      exact fin seqK_tup (begins_tuple a its.toArray) p' (fun h' e => ⟨_, e, rfl, rfl⟩) q
theorem iEnumK {e e2 : Expr} {f g : FE} {p pos tpos : Pos} {elts : List Expr} {kk : Nat} (hm : X.mg "enumerate" = none) (he : PE X e (tE X.K ex W f)) (he2 : PE X e2 (tE X.K ex W g)) (hg : Gl X "enumerate" := by rfl)
    (hs : starEach [e, e2] X.env = (false, eval e X.env) :: starEach [e2] X.env := by rfl) (hs2 : starEach [e2] X.env = (false, eval e2 X.env) :: starEach [] X.env := by rfl) (hpl : (backTo pos (starEach [e2] X.env)).any (·.1) = false := by rfl) :
    PI X (.Tuple elts kk tpos) (.Call (.Name "enumerate" p) [e, e2] [] pos) (tI X.K ex W (fEnumK f g)) := PI.imp (pi_enK hg hm (pa_cons he (pa_cons he2 pa_nil hs2) hs) hs hpl) fun σ H Rr ⟨_, _, _, r, q⟩ =>
  inE r q fun d s1 G1 H1 v e1 r1 hv q1 => inE r1 q1 fun kd s2 G2 H2 u e2 r2 hu q2 => by
    cases kd with
    | int k =>
      cases hu
      have q2 : Post X.K ex W _ G2 σ _ (R.of (if -(2 ^ 62) ≤ k ∧ k < 2 ^ 62 then (items d).map (enumFrom k) else none) s2) := q2
      by_cases hk : -(2 ^ 62) ≤ k ∧ k < 2 ^ 62
      · rw [if_pos hk] at q2
        have hv2 := hv.up e2
        cases d with
        | list ds =>
          cases hv2 with
          | lst h1 h2 => exact ⟨_, k, rfl, hk, .inl ⟨⟨_, r2.b.sub.seq h1⟩, q2.val' r2 _ (wkEn (Sq := fun H xs => SqL X.K H _ xs) (fun e h => e.seq h) h1 h2)⟩⟩
        | tuple ds =>
          cases hv2 with
          | tup h1 h2 => exact ⟨_, k, rfl, hk, .inr ⟨⟨_, sqT_mono r2.b.sub h1⟩, q2.val' r2 _ (wkEn (Sq := fun H xs => SqT X.K H _ xs) (fun e h => sqT_mono e h) h1 h2)⟩⟩
        | _ => exact q2.elim
      · rw [if_neg hk] at q2
        exact q2.elim
    | _ => exact q2.elim
end
/-! ### new objects of its own -/
def FreshE (K : PySem.W.Frag) (c : Act) (G H : Hp) (σ : St) (s : S) (v : V) (e : Ent) : Prop := EntOk K c G H v e ∧ isOb e = true ∧ ∀ (j : Nat), ObAt s j → σ[j]? ≠ some (some v)
/-- an expression that gives a new object -/
def tN (K : PySem.W.Frag) (ex : ExT) (W : WX) (f : S → R Ent) : TE := fun σ H Q => ∃ c G s, Rel K c G H σ s ∧ Post K ex W c G σ (fun e G' H' s' => ∀ v, FreshE K c G' H' σ s' v e → Q v H') (f s)
theorem inN {K : PySem.W.Frag} {ex : ExT} {W : WX} {c : Act} {G H : Hp} {σ : St} {s : S} {β : Type} {f : S → R Ent} {g : Ent → S → R β} {M : β → Hp → Hp → S → Prop} {N : V → Hp → Prop} (r : Rel K c G H σ s) (h : Post K ex W c G σ M ((f s).bind g))
    (next : ∀ e s' G' H' v, Same G G' → Rel K c G' H' σ s' → FreshE K c G' H' σ s' v e → Post K ex W c G' σ M (g e s') → N v H') : tN K ex W f σ H N :=
  ⟨c, G, s, r, Post.seq h fun a s' G' H' e r' q v hv => next a s' G' H' v e r' hv q⟩
theorem soN {K : PySem.W.Frag} {ex : ExT} {W : WX} {c : Act} {G H : Hp} {σ : St} {s : S} {En : Ends} {f : S → R Ent} {g : Ent → S → O} {N : V → Hp → Prop} (r : Rel K c G H σ s) (h : PostO K ex W c G En ((f s).stm g))
    (next : ∀ ds s' G' H' v, Same G G' → Rel K c G' H' σ s' → FreshE K c G' H' σ s' v ds → PostO K ex W c G' En (g ds s') → N v H') : tN K ex W f σ H N :=
  ⟨c, G, s, r, h.fromR fun a s' G' H' e r' q v hv => next a s' G' H' v e r' hv q⟩
theorem Rel.newOb {K : PySem.W.Frag} {c : Act} {G H : Hp} {σ : St} {s : S} {p : Addr} {ho : HO} (r : Rel K c G H σ s) (hp : H p = none) : Rel K c G (upd H p ho) σ s ∧ G p = none ∧ c.H0 p = none ∧ p ≠ c.wa ∧ ∀ (j : Nat), ObAt s j → σ[j]? ≠ some (some (.ref p)) := by
  obtain ⟨hG, hw, h0, g0⟩ := r.b.free hp
  exact ⟨r.allocOwn hp, hG, h0, hw, fun j hj z => r.notOb hp j hj z⟩
def fO (f : FA) : S → R Ent := fun s => (f s).bind fun ds s => .ok (.own ds) s
def sSetN (i : Nat) (f : S → R Ent) : FO := fun s => (f s).stm fun e s => .nx (s.put i e)
section
variable {X : Cx} {ex : ExT} {W : WX}
theorem nOwn {e : Expr} {f : FA} (h : PE X e (tO X.K ex W f)) : PE X e (tN X.K ex W (fO f)) := PE.imp h fun σ H Q ⟨_, _, _, r, q⟩ =>
  inO r q fun ds s1 G1 H1 v e1 r1 hv q1 => q1.val' r1 v ⟨hv.1, rfl, hv.2⟩
theorem kSetN {i : Nat} {x : Str} {e : Expr} {f : S → R Ent} {pos pos' : Pos} (hN : X.N.Nodup) (he : PE X e (tN X.K ex W f)) (hi : X.N[i]? = some x := by rfl) (hx : Loc X.env.scope x := by first | exact Or.inl rfl | exact Or.inr rfl)
    (hs : swapsWith e (some (.Name x pos')) pos.line X.env = pure false := by rfl) (hf : X.fn x = true ∨ X.env.scope.names.lookup x = some .local := by first | exact .inl rfl | exact .inr rfl) :
    PS X (.Assign [.Name x pos'] e pos) (tS X.K ex W (sSetN i f)) :=
  PS.imp (ps_set hN hi hx he hs hf) fun En σ H ⟨c, _, _, r, h⟩ => soN r h fun ds s1 G1 H1 v e1 r1 hv h1 => h1 _ G1 H1 (Same.refl _) (r1.put i hv.1 fun _ j _ hj => hv.2.2 j hj)
end
/-! ### a, b = e1, e2 where some are new objects of its own -/
abbrev FI := FE ⊕ (S → R Ent)
def fIts : List FI → S → R (List Ent)
  | [], s => .ok [] s
  | .inl f :: r, s => (f s).bind fun d s => (fIts r s).bind fun es s => .ok (.val d :: es) s
  | .inr f :: r, s => (f s).bind fun e s => (fIts r s).bind fun es s => .ok (e :: es) s
def EntsOk (K : PySem.W.Frag) (c : Act) (G H : Hp) (σ : St) (s : S) : List V → List Ent → Prop
  | [], [] => True
  | v :: vs, e :: es => EntOk K c G H v e ∧ (isOb e = true → (∀ (j : Nat), ObAt s j → σ[j]? ≠ some (some v)) ∧ ∀ (j : Nat) e', es[j]? = some e' → isOb e' = true → vs[j]? ≠ some v) ∧ EntsOk K c G H σ s vs es
  | [], _ :: _ => False
  | _ :: _, [] => False
section
variable {K : PySem.W.Frag} {ex : ExT} {W : WX} {c : Act} {G H : Hp} {σ : St} {s : S} {p : Addr} {o : HO}
theorem EntsOk.unprot : ∀ {vs : List V} {es : List Ent}, EntsOk K (c.prot p o) G H σ s vs es → EntsOk K c G H σ s vs es ∧ ∀ (j : Nat) e', es[j]? = some e' → isOb e' = true → vs[j]? ≠ some (.ref p)
  | [], [], _ => ⟨trivial, fun j ds' h => by simp at h⟩
  | [], _ :: _, h => h.elim
  | _ :: _, [], h => h.elim
  | v :: vs, e :: es, ⟨h1, h2, h3⟩ => by
    obtain ⟨a, b⟩ := EntsOk.unprot h3
    have key : ∀ o', Ob K (c.prot p o) G H v o' → Ob K c G H v o' ∧ v ≠ .ref p := fun o' ⟨q, ho, ev, k1, k2, k3, k4, k5⟩ => by
      have k2 : upd c.H0 p o q = none := k2
      have hn : q ≠ p := fun z => by rw [z, upd_same] at k2; cases k2
      rw [upd_ne hn] at k2
      exact ⟨⟨q, ho, ev, k1, k2, k3, k4, k5⟩, fun z => by rw [ev] at z; cases z; exact hn rfl⟩
    refine ⟨⟨h1.conv (Same.refl _) rfl rfl rfl fun _ o' k => (key o' k).1, h2, a⟩, fun j e' h hb => ?_⟩
    cases j with
    | zero =>
      have ee : e = e' := by simpa using h
      subst ee
      obtain ⟨o', k⟩ := h1.ob hb
      intro z
      exact (key o' k).2 (by simpa using z)
    | succ j => simpa using b j e' (by simpa using h) hb
theorem Post.seqP {α β : Type} {r : R α} {g : α → S → R β} {M : β → Hp → Hp → S → Prop} {N : α → Hp → Hp → S → Prop} (pl : plB o = true) (h0 : c.H0 p = none) (g0 : c.G0 p = none) (wa : p ≠ c.wa) (h : Post K ex W c G σ M (r.bind g))
    (next : ∀ a s' G' H', Same G G' → Rel K c G' H' σ s' → Beside c G' H' σ s' p o → Post K ex W c G' σ M (g a s') → N a G' H' s') : Post K ex W (c.prot p o) G σ N r := by
  cases r with
  | ok a s => exact fun G2 H2 e2 r2 => let ⟨r3, b3⟩ := Rel.unprot pl h0 g0 wa r2; next a s G2 H2 e2 r3 b3 (Post.up h e2)
  | exc k as s => exact fun cls dx G2 H2 e2 r2 hx => h cls dx G2 H2 e2 (Rel.unprot pl h0 g0 wa r2).1 hx
  | bad => exact h
theorem EntsOk.len : ∀ {vs : List V} {es : List Ent}, EntsOk K c G H σ s vs es → vs.length = es.length
  | [], [], _ => rfl
  | [], _ :: _, h => h.elim
  | _ :: _, [], h => h.elim
  | _ :: _, _ :: _, ⟨_, _, h⟩ => by rw [List.length_cons, List.length_cons, EntsOk.len h]
theorem EntsOk.put {i : Nat} {v : V} {e : Ent} {vs : List V} {es : List Ent} (r : Rel K c G H σ s) (h : EntsOk K c G H σ s (v :: vs) (e :: es)) : Rel K c G H (σ.set i (some v)) (s.put i e) ∧ EntsOk K c G H (σ.set i (some v)) (s.put i e) vs es := by
  obtain ⟨h1, h2, h3⟩ := h
  refine ⟨r.put i h1 fun b j _ hj => (h2 b).1 j hj, ?_⟩
  have rest : ∀ (vs : List V) (es : List Ent), (isOb e = true → ∀ (j : Nat) e', es[j]? = some e' → isOb e' = true → vs[j]? ≠ some v) → EntsOk K c G H σ s vs es → EntsOk K c G H (σ.set i (some v)) (s.put i e) vs es := by
    intro vs
    induction vs with
    | nil => intro es; cases es with
      | nil => exact fun _ _ => trivial
      | cons _ _ => exact fun _ h => h.elim
    | cons u vs ih => intro es; cases es with
      | nil => exact fun _ h => h.elim
      | cons e' es =>
        intro hne ⟨k1, k2, k3⟩
        refine ⟨k1, fun b' => ⟨fun j hj => ?_, (k2 b').2⟩, ih es (fun b j e2 hj b2 => by simpa using hne b (j + 1) e2 (by simpa using hj) b2) k3⟩
        obtain ⟨e2, q2, b2⟩ := hj
        rcases put_get0 q2 with ⟨rfl, hl, rfl⟩ | ⟨hij, q2⟩
        · rw [List.getElem?_set_self (by rw [← r.len]; exact hl)]
          intro z
          exact hne b2 0 e' rfl b' (by simpa using (show v = u by simpa using z).symm)
        · rw [List.getElem?_set_ne hij]
          exact (k2 b').1 j ⟨e2, q2, b2⟩
  exact rest vs es (fun b => (h2 b).2) h3
end
def tX (K : PySem.W.Frag) (ex : ExT) (W : WX) (f : S → R (List Ent)) : TA := fun σ H Q => ∃ c G s, Rel K c G H σ s ∧ Post K ex W c G σ (fun es G' H' s' => ∀ vs, EntsOk K c G' H' σ s' vs es → Q vs H') (f s)
def putEs : List Nat → List Ent → S → O
  | [], [], s => .nx s
  | i :: is, e :: es, s => putEs is es (s.put i e)
  | _, _, _ => .bad
def sMix (is : List Nat) (f : S → R (List Ent)) : FO := fun s => (f s).stm fun es s => putEs is es s
section
variable {X : Cx} {ex : ExT} {W : WX}
theorem xNil : PA X [] (tX X.K ex W (fIts [])) := PA.imp pa_nil fun _ _ _ ⟨_, _, _, r, h⟩ => h _ _ (Same.refl _) r [] trivial
theorem xVal {e : Expr} {es : List Expr} {f : FE} {l : List FI} (hf : PE X e (tE X.K ex W f)) (hg : PA X es (tX X.K ex W (fIts l))) (hs : starEach (e :: es) X.env = (false, eval e X.env) :: starEach es X.env := by rfl) :
    PA X (e :: es) (tX X.K ex W (fIts (.inl f :: l))) := PA.imp (pa_cons hf hg hs) fun σ H Q ⟨c, _, _, r, h⟩ =>
  inE r h fun d s1 G1 H1 v e1 r1 hv h1 => ⟨_, G1, s1, r1, Post.seq h1 fun es s2 G2 H2 e2 r2 h2 vs hvs => h2.val' r2 (v :: vs) ⟨hv.up e2, (fun b => nomatch b), hvs⟩⟩
theorem xNew {e : Expr} {es : List Expr} {f : S → R Ent} {l : List FI} (hf : PE X e (tN X.K ex W f)) (hg : PA X es (tX X.K ex W (fIts l))) (hs : starEach (e :: es) X.env = (false, eval e X.env) :: starEach es X.env := by rfl) :
    PA X (e :: es) (tX X.K ex W (fIts (.inr f :: l))) := PA.imp (pa_cons hf hg hs) fun σ H Q ⟨c, _, _, r, h⟩ =>
  inN r h fun en s1 G1 H1 v e1 r1 hv h1 => by
    obtain ⟨k1, kb, k2⟩ := hv
    obtain ⟨o', p, ho, rfl, hG, h0, hw, hH, hok⟩ := k1.ob kb
    have b : Beside c G1 H1 σ s1 p ho := ⟨hH, hG, h0, hw, k2, hok.plb⟩
    have g0 : c.G0 p = none := r1.b.g0.free hG
    refine ⟨c.prot p ho, G1, s1, r1.prot b, Post.seqP hok.plb h0 g0 hw h1 fun es s2 G2 H2 e2 r2 b2 h2 vs hvs => ?_⟩
    obtain ⟨u1, u2⟩ := hvs.unprot
    refine h2.val' r2 (.ref p :: vs) ⟨k1.conv e2 rfl rfl rfl fun _ o'' ⟨q, ho', ev, w1, w2, w3, w4, w5⟩ => ?_, fun _ => ⟨b2.ne, u2⟩, u1⟩
    cases ev
    rw [hH] at w4
    cases w4
    exact ⟨p, ho, rfl, b2.g, h0, hw, b2.at_, w5.up e2⟩
theorem kMix2 {i0 i1 : Nat} {a b : Expr} {pos : Pos} {x y : Str} {px py pt : Pos} {kt k2 pt2} {fa : S → R (List Ent)} (hN : X.N.Nodup) (ha : PA X [a, b] (tX X.K ex W fa)) (hc : X.calm = true := by rfl) (hi : X.N[i0]? = some x := by rfl) (hj : X.N[i1]? = some y := by rfl) (hij : i0 ≠ i1 := by decide)
    (hx : X.env.scope.names.lookup x = some .local := by rfl) (hy : X.env.scope.names.lookup y = some .local := by rfl) (hw : swappedStores [.Tuple [.Name x px, .Name y py] kt pt] (.Tuple [a, b] k2 pt2) X.env = pure (some [x, y]) := by rfl)
    (hs : swapsWithSole [.Tuple [.Name x px, .Name y py] kt pt] (.Tuple [a, b] k2 pt2) pos.line X.env = pure false := by rfl) :
    PS X (.Assign [.Tuple [.Name x px, .Name y py] kt pt] (.Tuple [a, b] k2 pt2) pos) (tS X.K ex W (sMix [i0, i1] fa)) :=
  PS.imp (ps_par hc hN hi hj hij hx hy ha hw hs) fun En σ H ⟨c, G, s, r, h⟩ => by
    refine ⟨c, G, s, r, h.fromR fun es s1 G1 H1 e1 r1 h1 vs hv => ?_⟩
    have hl := hv.len
    match es, h1 with
    | [d1, d2], h1 =>
      match vs, hl, hv with
      | [v1, v2], _, hv =>
        obtain ⟨r2, hv2⟩ := hv.put (i := i0) r1
        obtain ⟨r3, _⟩ := hv2.put (i := i1) r2
        exact ⟨_, _, rfl, h1 _ G1 H1 (Same.refl _) r3⟩
    | [], h1 => exact h1.elim
    | [_], h1 => exact h1.elim
    | _ :: _ :: _ :: _, h1 => exact h1.elim
theorem kMix3 {i0 i1 i2 : Nat} {a b c : Expr} {pos : Pos} {x y z : Str} {px py pz pt : Pos} {kt k2 pt2} {fa : S → R (List Ent)} (hN : X.N.Nodup) (ha : PA X [a, b, c] (tX X.K ex W fa)) (hc : X.calm = true := by rfl) (hi : X.N[i0]? = some x := by rfl) (hj : X.N[i1]? = some y := by rfl) (hl : X.N[i2]? = some z := by rfl) (hij : i0 ≠ i1 := by decide) (hil : i0 ≠ i2 := by decide) (hjl : i1 ≠ i2 := by decide)
    (hx : X.env.scope.names.lookup x = some .local := by rfl) (hy : X.env.scope.names.lookup y = some .local := by rfl) (hz : X.env.scope.names.lookup z = some .local := by rfl) (hw : swappedStores [.Tuple [.Name x px, .Name y py, .Name z pz] kt pt] (.Tuple [a, b, c] k2 pt2) X.env = pure (some [x, y, z]) := by rfl)
    (hs : swapsWithSole [.Tuple [.Name x px, .Name y py, .Name z pz] kt pt] (.Tuple [a, b, c] k2 pt2) pos.line X.env = pure false := by rfl) :
    PS X (.Assign [.Tuple [.Name x px, .Name y py, .Name z pz] kt pt] (.Tuple [a, b, c] k2 pt2) pos) (tS X.K ex W (sMix [i0, i1, i2] fa)) :=
  PS.imp (ps_par3 hc hN hi hj hl hij hil hjl hx hy hz ha hw hs) fun En σ H ⟨c, G, s, r, h⟩ => by
    refine ⟨c, G, s, r, h.fromR fun es s1 G1 H1 e1 r1 h1 vs hv => ?_⟩
    have hl := hv.len
    match es, h1 with
    | [d1, d2, d3], h1 =>
      match vs, hl, hv with
      | [v1, v2, v3], _, hv =>
        obtain ⟨r2, hv2⟩ := hv.put (i := i0) r1
        obtain ⟨r3, hv3⟩ := hv2.put (i := i1) r2
        obtain ⟨r4, _⟩ := hv3.put (i := i2) r3
        exact ⟨_, _, _, rfl, h1 _ G1 H1 (Same.refl _) r4⟩
    | [], h1 => exact h1.elim
    | [_], h1 => exact h1.elim
    | [_, _], h1 => exact h1.elim
    | _ :: _ :: _ :: _ :: _, h1 => exact h1.elim
end
end PD
/-! PD15: instances of own classes: fields that are data, methods, C(..). -/
namespace PD
open PySem PySem.Spec L2
open PyProof.Rows hiding St
variable [WI]
/-! ### fields -/
def putFD (f : Str) (d : D) : List (Str × D) → List (Str × D)
  | [] => [(f, d)]
  | (g, x) :: r => if g = f then (g, d) :: r else (g, x) :: putFD f d r
section
variable {K : PySem.W.Frag} {G : Hp}
theorem PrAll.look {α : Type} [BEq α] {l : List (α × V)} {m : List (α × D)} (h : PrAll K G l m) (f : α) : (∀ d, m.lookup f = some d → ∃ v, l.lookup f = some v ∧ Dp K G v d) ∧ (m.lookup f = none → l.lookup f = none) := by
  induction h with
  | nil => exact ⟨(fun _ e => nomatch e), fun _ => rfl⟩
  | @cons k v d l m h1 h2 ih =>
    rw [List.lookup_cons, List.lookup_cons]
    cases f == k with
    | true => exact ⟨fun d' e => (by cases e; exact ⟨v, rfl, h1⟩), (fun e => nomatch e)⟩
    | false => exact ih
theorem PrAll.putF {l : List (Str × V)} {m : List (Str × D)} (h : PrAll K G l m) {f : Str} {v : V} {d : D} (hv : Dp K G v d) : PrAll K G (L2.putF f v l) (putFD f d m) := by
  induction h with
  | nil => exact .cons hv .nil
  | @cons k u e l m h1 h2 ih =>
    unfold L2.putF putFD
    by_cases hk : k = f
    · rw [if_pos hk, if_pos hk]
      exact .cons hv h2
    · rw [if_neg hk, if_neg hk]
      exact .cons h1 ih
theorem PrAll.len {α : Type} {l : List (α × V)} {m : List (α × D)} (h : PrAll K G l m) : l.length = m.length := by
  induction h with
  | nil => rfl
  | cons _ _ ih => rw [List.length_cons, List.length_cons, ih]
end
/-! ### an object of a slot's, taken and put back -/
section
variable {K : PySem.W.Frag} {c : Act} {G H G' H' : Hp} {σ : St} {s : S} {w' : Wst} {p : Addr}
theorem Rel.takeOb {i : Nat} {e : Ent} (r : Rel K c G H σ s) (h : s.ρ[i]? = some (some e)) (hb : isOb e = true) : ∃ p ho, σ[i]? = some (some (.ref p)) ∧ Rel K c G H σ (s.drop i) ∧ Beside c G H σ (s.drop i) p ho ∧ EntOk K c G H (.ref p) e := by
  obtain ⟨v, hv, he⟩ := r.slot i _ h
  obtain ⟨o, p, ho, rfl, h1, h2, h3, h4, h5⟩ := he.ob hb
  refine ⟨p, ho, hv, r.forget i, ⟨h4, h1, h2, h3, fun j ⟨e', q, b⟩ => ?_, h5.plb⟩, he⟩
  obtain ⟨q, hij⟩ := drop_get q
  exact r.sep i j _ hij ⟨_, h, hb⟩ ⟨e', q, b⟩ hv
theorem Rel.backOb {i : Nat} {e : Ent} (r : Rel K c G H σ (s.drop i)) (hv : σ[i]? = some (some (.ref p))) (hne : ∀ (j : Nat), ObAt (s.drop i) j → σ[j]? ≠ some (some (.ref p))) (he : EntOk K c G H (.ref p) e) : Rel K c G H σ (s.put i e) := by
  have r3 := r.put i he fun _ j _ hj => hne j hj
  rw [put_same hv, drop_put] at r3
  exact r3
def hide (p : Addr) (H : Hp) : Hp := fun a => if a = p then none else H a
theorem hide_ne {p a : Addr} {H : Hp} (h : a ≠ p) : hide p H a = H a := if_neg h
theorem hide_some {p a : Addr} {H : Hp} {o : HO} (h : hide p H a = some o) : H a = some o ∧ a ≠ p := by
  unfold hide at h
  by_cases e : a = p
  · rw [if_pos e] at h; cases h
  · rw [if_neg e] at h; exact ⟨h, e⟩
theorem Rel.baseHide (r : Rel K c G H σ s) (p : Addr) : Base K ⟨c.wa, c.sc, G, hide p H, p, []⟩ G H s.w :=
  ⟨r.b.sub, r.b.wl, r.b.wf, r.b.scr, Same.refl _, fun a o e _ => (hide_some e).1, fun _ _ _ _ n => n, (fun _ h => nomatch h), r.b.ng⟩
theorem _root_.LamX.TabS.exh {H H' : Hp} {P p wa : Addr} {q : Str} {l : List V} {ho : HO} (t : LamX.TabS H P q) (hp : H p = some ho) (pl : plain ho = true) (hw : H wa = some (.lst l)) (h : ∀ a o, hide p H a = some o → a ≠ wa → H' a = some o) : LamX.TabS H' P q := by
  have hP := TabS.ne t hw rfl
  have hP2 := TabS.ne t hp pl
  obtain ⟨ps, h1, h2, h3⟩ := t
  refine ⟨ps, h _ _ ((hide_ne hP2).trans h1) hP, h2, fun pos cv hc => ?_⟩
  obtain ⟨c, e1, e2⟩ := h3 pos cv hc
  refine ⟨c, e1, h _ _ ((hide_ne fun z => ?_).trans e2) fun z => ?_⟩
  · rw [z, hp] at e2
    cases e2
    exact plain_code pl
  · rw [z, hw] at e2
    cases e2
/-- behind a call that may change the object at p -/
theorem Rel.afterHide {ho : HO} (r : Rel K c G H σ s) (hp : H p = some ho) (pl : plain ho = true) (h0 : c.H0 p = none) (hne : ∀ (j : Nat), ObAt s j → σ[j]? ≠ some (some (.ref p))) (b : Base K ⟨c.wa, c.sc, G, hide p H, p, []⟩ G' H' w') : Same G G' ∧ Rel K c G' H' σ { s with w := w' } := by
  have hid : ∀ {a : Addr} {o : HO}, H a = some o → a ≠ p → hide p H a = some o := fun e n => (hide_ne n).trans e
  have np : ∀ {a : Addr} {o : HO}, c.H0 a = some o → a ≠ p := fun e z => by rw [z, h0] at e; cases e
  refine ⟨b.g0, ⟨b.sub, b.wl, b.wf, b.scr, r.b.g0.trans b.g0, fun a o e n => b.h0 a o (hid (r.b.h0 a o e n) (np e)) n, fun a o e mu n => ?_, fun q hq => let ⟨t, g, h⟩ := r.b.tb q hq; ⟨t.exh hp pl r.b.wl b.h0, let ⟨_, z⟩ := TabS.at_ t; b.n0 _ _ (hid z (TabS.ne t hp pl)) rfl g, h⟩, b.ng⟩, r.len, fun i e q => ?_, r.sep⟩
  · by_cases ha : a = c.wa
    · rw [ha]
      exact b.wf
    · exact b.n0 a o (hid (r.b.h0 a o e ha) (np e)) mu (r.b.n0 a o e mu n)
  · obtain ⟨v, hv, he⟩ := r.slot i e q
    refine ⟨v, hv, he.conv b.g0 rfl rfl rfl fun bb o ⟨q', ho, ev, h1, h2, h3, h4, h5⟩ => ?_⟩
    have hq : q' ≠ p := fun z => hne i ⟨e, q, bb⟩ (by rw [hv, ev, z])
    exact ⟨q', ho, ev, b.n0 q' ho (hid h4 hq) (OcOk.mu h5) h1, h2, h3, b.h0 q' ho (hid h4 hq) h3, h5.up b.g0⟩
end
/-! ### what the walk asks of a class -/
structure ClsF (K : PySem.W.Frag) (cn : Str) (C : Addr) (fns : List Str) : Prop where
  at_ : PySem.W.nsIn K mainGlobals cn = some (some (.ref C))
  cl : Cls K C
  no : ∀ f ∈ fns, NoAttr K C f
inductive FRm where
  | ret (d : D) (fs : List (Str × D)) (w : Wst)
  | exc (k : Nat) (as : List D) (fs : List (Str × D)) (w : Wst)
  | bad
abbrev SemM := List (Str × D) → List D → Wst → FRm
/-- the instance at p has these fields -/
def InsAt (K : PySem.W.Frag) (G H : Hp) (cn : Str) (p : Addr) (fs : List (Str × D)) : Prop := ∃ C dx fvs, PySem.W.nsIn K mainGlobals cn = some (some (.ref C)) ∧ H p = some (.ins C dx fvs) ∧ PrAll K G fvs fs
def spM (K : PySem.W.Frag) (ex : ExT) (cn : Str) (n : Nat) (sem : SemM) : Sp := fun vs H Q E => ∃ (wa sc : Addr) (G H0 : Hp) (w : Wst) (fs : List (Str × D)) (ds : List D) (p : Addr) (vs' : List V), Base K ⟨wa, sc, G, H0, p, []⟩ G H w ∧ vs = V.ref p :: vs' ∧ ds.length = n ∧ DpAll K G vs' ds ∧
  InsAt K G H cn p fs ∧ G p = none ∧ H0 p = none ∧ p ≠ wa ∧
  match sem fs ds w with
  | .ret d fs' w' => ∀ v G' H', Base K ⟨wa, sc, G, H0, p, []⟩ G' H' w' → InsAt K G' H' cn p fs' → G' p = none → Dp K G' v d → Q v H'
  | .exc k as fs' w' => ∀ cls dx G' H', Base K ⟨wa, sc, G, H0, p, []⟩ G' H' w' → InsAt K G' H' cn p fs' → G' p = none → ExcIs K ex k as cls dx G' H' → E cls dx H'
  | .bad => False
def startM (N : Nat) (cn : Str) (fs : List (Str × D)) (ds : List D) (w : Wst) : S :=
  ⟨some (.ins true cn fs) :: ((ds.map fun d => some (Ent.val d)) ++ List.replicate (N - (1 + ds.length)) none), w⟩
def insAt (cn : Str) (s : S) (i : Nat) : Option (Bool × List (Str × D)) := match s.ρ[i]? with
  | some (some (.ins b n fs)) => if n = cn then some (b, fs) else none
  | _ => none
def outM (cn : Str) : O → FRm
  | .rt d s => match insAt cn s 0 with
    | some (true, fs) => .ret d fs s.w
    | _ => .bad
  | .nx s => match insAt cn s 0 with
    | some (true, fs) => .ret .none fs s.w
    | _ => .bad
  | .exc k as s => match insAt cn s 0 with
    | some (true, fs) => .exc k as fs s.w
    | _ => .bad
  | _ => .bad
def semOfM (N : Nat) (cn : Str) (f : FO) : SemM := fun fs ds w => outM cn (f (startM N cn fs ds w))
theorem insAt_eq {cn : Str} {s : S} {i : Nat} {b : Bool} {fs : List (Str × D)} (h : insAt cn s i = some (b, fs)) : s.ρ[i]? = some (some (.ins b cn fs)) := by
  unfold insAt at h
  split at h
  · rename_i b' n fs' e
    split at h
    · rename_i hn
      cases h
      rw [← hn]
      exact e
    · cases h
  · cases h
structure FnM (P : Program) (w : World) (K : PySem.W.Frag) (mg : Str → Option Value) (base : Heap) (ex : ExT) (k : Nat) (cn m : Str) (n : Nat) (sem : SemM) : Prop where
  ex : ∃ C f fd ps, PySem.W.nsIn K mainGlobals cn = some (some (.ref C)) ∧ Cls K C ∧ Meth K C m f ∧ FnG P w K mg base (L2.CX P w) k f fd ps (spM K ex cn n sem) ∧ Binds K fd ps []
structure FnI (P : Program) (w : World) (K : PySem.W.Frag) (mg : Str → Option Value) (base : Heap) (ex : ExT) (k : Nat) (cn : Str) (n : Nat) (sem : SemM) : Prop where
  ex : ∃ C f fd ps, PySem.W.nsIn K mainGlobals cn = some (some (.ref C)) ∧ mg cn = some (.ref C) ∧ Mk K C f ∧ FnOk P w K mg base (L2.CX P w) k f fd ps (spM K ex cn n sem) ∧ Binds K fd ps []
section
variable {P : Program} {w : World} {K : PySem.W.Frag} {mg : Str → Option Value} {base : Heap} {ex : ExT}
theorem FnM.mono {j k : Nat} {cn m : Str} {n : Nat} {sem : SemM} (F : FnM P w K mg base ex j cn m n sem) (hk : j ≤ k) : FnM P w K mg base ex k cn m n sem := by
  obtain ⟨C, f, fd, ps, a, b, c, d, e⟩ := F.ex
  exact ⟨C, f, fd, ps, a, b, c, d.mono hk, e⟩
theorem FnI.mono {j k : Nat} {cn : Str} {n : Nat} {sem : SemM} (F : FnI P w K mg base ex j cn n sem) (hk : j ≤ k) : FnI P w K mg base ex k cn n sem := by
  obtain ⟨C, f, fd, ps, a, b, c, d, e⟩ := F.ex
  exact ⟨C, f, fd, ps, a, b, c, d.mono hk, e⟩
theorem startM_rel {c : Act} {G H : Hp} {w : Wst} {fs : List (Str × D)} {ds : List D} {p : Addr} {vs' : List V} {N : List Str} {cn : Str} (b : Base K c G H w) (hd : DpAll K G vs' ds) (hl : ds.length + 1 ≤ N.length)
    (hp : InsAt K G H cn p fs) (hG : G p = none) (h0 : c.H0 p = none) (hw : p ≠ c.wa) (hse : c.se = p) : Rel K c G H (start N (V.ref p :: vs')) (startM N.length cn fs ds w) := by
  have ev := hd.len
  have key : ∀ (i : Nat) e, (((ds.map fun d => some (Ent.val d)) ++ List.replicate (N.length - (1 + ds.length)) none)[i]? = some (some e)) → ∃ d v, e = .val d ∧ (vs'.map some ++ List.replicate (N.length - (vs'.length + 1)) none)[i]? = some (some v) ∧ Dp K G v d := fun i e q => by
    by_cases hi : i < ds.length
    · rw [List.getElem?_append_left (by simpa using hi), List.getElem?_map] at q
      cases z : ds[i]? with
      | none => rw [z] at q; cases q
      | some d =>
        rw [z] at q
        have q : Ent.val d = e := by simpa using q
        obtain ⟨v, hv, hvd⟩ := hd.get z
        refine ⟨d, v, q.symm, ?_, hvd⟩
        rw [List.getElem?_append_left (by simp; omega), List.getElem?_map, hv]
        rfl
    · rw [List.getElem?_append_right (by simp; omega)] at q
      have m := List.mem_of_getElem? q
      rw [List.mem_replicate] at m
      cases m.2
  have slot : ∀ (i : Nat) e, (startM N.length cn fs ds w).ρ[i]? = some (some e) → (i = 0 ∧ e = .ins true cn fs) ∨ ∃ i' d v, i = i' + 1 ∧ e = .val d ∧ (start N (V.ref p :: vs'))[i]? = some (some v) ∧ Dp K G v d := fun i e q => by
    cases i with
    | zero =>
      have q : Ent.ins true cn fs = e := by simpa [startM] using q
      exact .inl ⟨rfl, q.symm⟩
    | succ i =>
      have q : ((ds.map fun d => some (Ent.val d)) ++ List.replicate (N.length - (1 + ds.length)) none)[i]? = some (some e) := by simpa [startM] using q
      obtain ⟨d, v, e1, e2, e3⟩ := key i e q
      refine .inr ⟨i, d, v, rfl, e1, ?_, e3⟩
      unfold L2.start
      simpa using e2
  refine ⟨b, ?_, fun i e q => ?_, fun i j v n ⟨e1, q1, b1⟩ ⟨e2, q2, b2⟩ => ?_⟩
  · unfold startM L2.start
    simp
    omega
  · rcases slot i e q with ⟨rfl, rfl⟩ | ⟨i', d, v, rfl, rfl, e2, e3⟩
    · obtain ⟨C, dx, fvs, hn, hH, hpr⟩ := hp
      exact ⟨.ref p, rfl, ⟨p, _, rfl, hG, h0, hw, hH, C, dx, fvs, hn, rfl, hpr⟩, fun _ => by rw [hse]⟩
    · exact ⟨v, e2, e3⟩
  · rcases slot i e1 q1 with ⟨rfl, rfl⟩ | ⟨i', d, u, rfl, rfl, _, _⟩
    · rcases slot j e2 q2 with ⟨rfl, rfl⟩ | ⟨j', d, u, rfl, rfl, _, _⟩
      · exact absurd rfl n
      · cases b2
    · cases b1
theorem Rel.insAt0 {c : Act} {G H : Hp} {σ : St} {s : S} {cn : Str} {fs : List (Str × D)} (r : Rel K c G H σ s) (h : insAt cn s 0 = some (true, fs)) : InsAt K G H cn c.se fs ∧ G c.se = none := by
  obtain ⟨v, hv, ⟨q, ho, ev, h1, h2, h3, h4, C, dx, fvs, hn, rfl, hpr⟩, hs⟩ := r.slot 0 _ (insAt_eq h)
  have hs := hs rfl
  rw [ev] at hs
  cases hs
  exact ⟨⟨C, dx, fvs, hn, h4, hpr⟩, h1⟩
end
end PD
/-! PD16: instances: o.f, o.f = e, o.m(..), C(..), the defs of methods. -/
namespace PD
open PySem PySem.Spec L2
open PyProof.Rows hiding St
variable [WI]
/-- name.f -/
def fFld (cn : Str) (i : Nat) (f : Str) : FE := fun s => match insAt cn s i with
  | some (_, fs) => R.of (fs.lookup f) s
  | none => .bad
/-- name.f = e -/
def sFldO (cn : Str) (i : Nat) (f : Str) (g : FE) : FO := fun s => (g s).stm fun d s => match insAt cn s i with
  | some (b, fs) => if fs.length < 1000 then .nx (s.put i (.ins b cn (putFD f d fs))) else .bad
  | none => .bad
def methR (cn : Str) (i : Nat) (b : Bool) (sem : SemM) (fs : List (Str × D)) (ds : List D) (s : S) : R D :=
  match sem fs ds s.w with
  | .ret d fs' w => .ok d (({ s with w := w } : S).put i (.ins b cn fs'))
  | .exc k as fs' w => .exc k as (({ s with w := w } : S).put i (.ins b cn fs'))
  | .bad => .bad
/-- name.m(..) -/
def fMeth (cn : Str) (i : Nat) (m : Str) (n : Nat) (sem : SemM) (f : FA) : FE := fun s => match insAt cn s i with
  | some (_, fs0) => if (fs0.lookup m).isNone = true then (f s).bind fun ds s => match insAt cn s i with
      | some (b, fs) => if ds.length = n then methR cn i b sem fs ds s else .bad
      | none => .bad
    else .bad
  | none => .bad
def newR (cn : Str) (sem : SemM) (ds : List D) (s : S) : R Ent :=
  match sem [] ds s.w with
  | .ret .none fs' w => .ok (.ins false cn fs') { s with w := w }
  | .exc k as _ w => .exc k as { s with w := w }
  | _ => .bad
/-- C(..) -/
def fNew (cn : Str) (n : Nat) (sem : SemM) (f : FA) : S → R Ent := fun s => (f s).bind fun ds s => if ds.length = n then newR cn sem ds s else .bad
def E0 (W : WX) : XK := fun cls d H => ∀ σ, W cls d σ H
theorem passE0 {X : Cx} {W : WX} (tk : Takes X W) : ∀ σ, PassesAt (L2.CX X.prog X.w) X σ (E0 W) := fun σ' _ _ _ e s' I c => tk e s' (XE.of_call I (fun _ _ _ h => h σ') c)
theorem passE0' {X : Cx} {W : WX} (tk : Takes X W) : Passes (L2.CX X.prog X.w) X (E0 W) := fun _ σ' _ _ e s' I c => tk e s' (XE.of_call I (fun _ _ _ h => h σ') c)
/-- the wish does not look at the slots -/
def WFlat (W : WX) : Prop := ∀ cls d σ σ' H, W cls d σ H → W cls d σ' H
section
variable {X : Cx} {ex : ExT} {W : WX}
theorem eFld (i : Nat) {C : Addr} {cn f x : Str} {fns : List Str} {p pos : Pos} (T : ClsF X.K cn C fns) (hf : f ∈ fns := by decide) (hN : X.N[i]? = some x := by rfl) (hv : Vis X.env.scope x := by first | exact Or.inl rfl | exact Or.inr (Or.inl rfl) | exact Or.inr (Or.inr rfl))
    (hd : (x == ("__debug__" : Str)) = false := by decide) (hcd : (x == ("__classdict__" : Str)) = false := by decide) (hb : attributeBase (.Name x p) f X.env (eval (.Name x p) X.env) = eval (.Name x p) X.env := by rfl) :
    PE X (.Attribute (.Name x p) f pos) (tE X.K ex W (fFld cn i f)) := PE.imp (pe_fld (pe_var hN hv hd hcd) hb) fun σ H Q ⟨c, G, s, r, h⟩ => by
  have h : Post X.K ex W c G σ _ (match insAt cn s i with
    | some (_, fs) => R.of (fs.lookup f) s
    | none => .bad) := h
  cases z : insAt cn s i with
  | none => rw [z] at h; exact h.elim
  | some bf =>
    obtain ⟨b, fs⟩ := bf
    rw [z] at h
    obtain ⟨v, hv, ⟨q, ho, rfl, h1, h2, h3, h4, C', dx, fvs, hn, rfl, hpr⟩, _⟩ := r.slot i _ (insAt_eq z)
    have eC : C' = C := by
      have := hn.symm.trans T.at_
      cases this
      rfl
    subst eC
    cases y : fs.lookup f with
    | none => simp only [y] at h; exact h.elim
    | some d =>
      simp only [y] at h
      obtain ⟨u, hu, hd⟩ := (hpr.look f).1 d y
      exact ⟨_, hv, q, C', dx, fvs, u, rfl, h4, T.cl, T.no f hf, hu, h.val r hd⟩
theorem kFld (i : Nat) {C : Addr} {cn f x : Str} {fns : List Str} {value : Expr} {g : FE} {p pos pos' : Pos} (T : ClsF X.K cn C fns) (hg : PE X value (tE X.K ex W g)) (hf : f ∈ fns := by decide) (hN : X.N[i]? = some x := by rfl) (hv : Vis X.env.scope x := by first | exact Or.inl rfl | exact Or.inr (Or.inl rfl) | exact Or.inr (Or.inr rfl))
    (hd : (x == ("__debug__" : Str)) = false := by decide) (hcd : (x == ("__classdict__" : Str)) = false := by decide) (hs : swapsWith value (some (.Attribute (.Name x p) f pos')) pos.line X.env = pure false := by rfl) :
    PS X (.Assign [.Attribute (.Name x p) f pos'] value pos) (tS X.K ex W (sFldO cn i f g)) := PS.imp (ps_fld (pe_var hN hv hd hcd) hg hs) fun En σ H ⟨c, G, s, r, h⟩ => soE r h fun d s1 G1 H1 v e1 r1 hv h1 => by
  cases z : insAt cn s1 i with
  | none => rw [z] at h1; exact h1.elim
  | some bf =>
    obtain ⟨b, fs⟩ := bf
    rw [z] at h1
    by_cases hl : fs.length < 1000
    · simp only [hl, if_true] at h1
      have hz := insAt_eq z
      obtain ⟨q, ho, hq, r2, b2, ⟨⟨q', ho', e', k1, k2, k3, k4, C', dx, fvs, hn, rfl, hpr⟩, hs⟩⟩ := r1.takeOb hz rfl
      cases e'
      have hhe : ho = .ins C' dx fvs := by
        have := b2.at_
        rw [k4] at this
        exact (Option.some.inj this).symm
      have eC : C' = C := by
        have := hn.symm.trans T.at_
        cases this
        rfl
      subst eC
      obtain ⟨r3, b3⟩ := r2.setBeside b2 (.ins C' dx (L2.putF f v fvs))
      have r4 := r3.backOb (e := .ins b cn (putFD f d fs)) hq b3.ne ⟨⟨q, _, rfl, b3.g, b3.h0, b3.wa, b3.at_, C', dx, _, hn, rfl, hpr.putF hv⟩, hs⟩
      refine ⟨_, hq, q, C', dx, fvs, rfl, k4, T.cl, T.no f hf, by rw [hpr.len]; exact hl, ?_⟩
      exact h1 σ G1 _ (Same.refl _) r4
    · simp only [hl, if_false] at h1
      exact h1.elim
theorem meth_fin {c : Act} {G H : Hp} {σ : St} {s : S} {Q : VK} {cn : Str} {i n : Nat} {b : Bool} {sem : SemM} {fs : List (Str × D)} {ds : List D} {vs : List V} {p : Addr} (hW : WFlat W) (r : Rel X.K c G H σ s) (hz : s.ρ[i]? = some (some (.ins b cn fs))) (hp : σ[i]? = some (some (.ref p))) (hd : DpAll X.K G vs ds) (hl : ds.length = n)
    (q : Post X.K ex W c G σ (fun d G' H' _ => ∀ v, Dp X.K G' v d → Q v H') (methR cn i b sem fs ds s)) : spM X.K ex cn n sem (.ref p :: vs) H Q (E0 W) := by
  obtain ⟨p', ho, hp', r2, b2, ⟨⟨q', ho', e', k1, k2, k3, k4, C', dx, fvs, hn, rfl, hpr⟩, hs⟩⟩ := r.takeOb hz rfl
  cases e'
  rw [hp] at hp'
  cases hp'
  refine ⟨c.wa, c.sc, G, hide p H, s.w, fs, ds, p, vs, r.baseHide p, rfl, hl, hd, ⟨C', dx, fvs, hn, k4, hpr⟩, k1, if_pos rfl, k3, ?_⟩
  have back : ∀ {G' H' : Hp} {w' : Wst} {fs' : List (Str × D)}, Base X.K ⟨c.wa, c.sc, G, hide p H, p, []⟩ G' H' w' → InsAt X.K G' H' cn p fs' → G' p = none → Same G G' ∧ Rel X.K c G' H' σ (({ s with w := w' } : S).put i (.ins b cn fs')) := fun {G' H' w' fs'} bb hi hg => by
    obtain ⟨e1, r3⟩ := r2.afterHide b2.at_ (plB_pl b2.pl) b2.h0 b2.ne bb
    obtain ⟨C2, dx2, fvs2, hn2, hH2, hpr2⟩ := hi
    have r4 : Rel X.K c G' H' σ (({ s with w := w' } : S).drop i) := r3
    exact ⟨e1, r4.backOb hp b2.ne ⟨⟨p, _, rfl, hg, k2, k3, hH2, C2, dx2, fvs2, hn2, rfl, hpr2⟩, hs⟩⟩
  unfold methR at q
  cases z : sem fs ds s.w with
  | ret d fs' w' =>
    rw [z] at q
    intro v G' H' bb hi hg hvd
    obtain ⟨e1, r5⟩ := back bb hi hg
    exact q G' H' e1 r5 v hvd
  | exc k as fs' w' =>
    rw [z] at q
    intro cls dx' G' H' bb hi hg hx σ'
    obtain ⟨e1, r5⟩ := back bb hi hg
    exact hW _ _ _ _ _ (q cls dx' G' H' e1 r5 hx)
  | bad => rw [z] at q; exact q.elim
theorem eMeth (i : Nat) {k n : Nat} {cn m x : Str} {sem : SemM} {e : Expr} {es : List Expr} {f : FA} {p apos pos : Pos} {pl : Sem Bool} (F : FnM X.prog X.w X.K X.mg X.base ex k cn m n sem) (hr : RoomG k X.A) (tk : Takes X W) (hW : WFlat W) (ha : PA X (e :: es) (tA X.K ex W f))
    (hN : X.N[i]? = some x := by rfl) (hv : Vis X.env.scope x := by first | exact Or.inl rfl | exact Or.inr (Or.inl rfl) | exact Or.inr (Or.inr rfl))
    (hd : (x == ("__debug__" : Str)) = false := by decide) (hcd : (x == ("__classdict__" : Str)) = false := by decide) (hst : starEach (e :: es) X.env = (false, eval e X.env) :: starEach es X.env := by rfl) (hpl : (backTo pos (starEach es X.env)).any (·.1) = false := by rfl)
    (ht : eval (.Call (.Attribute (.Name x p) m apos) (e :: es) [] pos) X.env = (do
      let ov ← eval (.Name x p) X.env
      standAt apos.atName
      let (f, first) ← holding [ov] (getMethod ov m pl)
      callWith pos f first (backTo pos (starEach (e :: es) X.env)) (backToKw pos (keywordEach [] X.env))) := by rfl) :
    PE X (.Call (.Attribute (.Name x p) m apos) (e :: es) [] pos) (tE X.K ex W (fMeth cn i m n sem f)) := by
  obtain ⟨C, fa, fd, ps, hC, hcl, hm, ok, hb⟩ := F.ex
  refine PE.imp (pe_methG (pl := pl) (pe_var hN hv hd hcd) hcl hm ok hr hb (passE0 tk) ha hst hpl ht) fun σ H Q ⟨c, G, s, r, h⟩ => ?_
  have h : Post X.K ex W c G σ _ (match insAt cn s i with
    | some (_, fs0) => if (fs0.lookup m).isNone = true then (f s).bind fun ds s => match insAt cn s i with
        | some (b, fs) => if ds.length = n then methR cn i b sem fs ds s else .bad
        | none => .bad
      else .bad
    | none => .bad) := h
  cases z : insAt cn s i with
  | none => rw [z] at h; exact h.elim
  | some bf =>
    obtain ⟨b, fs⟩ := bf
    rw [z] at h
    dsimp only at h
    obtain ⟨v, hv', ⟨q, ho, rfl, h1, h2, h3, h4, C', dx, fvs, hn, rfl, hpr⟩, _⟩ := r.slot i _ (insAt_eq z)
    have eC : C' = C := by
      have := hn.symm.trans hC
      cases this
      rfl
    subst eC
    cases y : fs.lookup m with
    | some d => simp only [y] at h; exact h.elim
    | none =>
      simp only [y] at h
      rw [if_pos (show (none : Option D).isNone = true from rfl)] at h
      refine ⟨_, hv', q, dx, fvs, rfl, h4, (hpr.look m).2 y, inA r h fun ds s1 G1 H1 vs e1 r1 hvs q1 => ?_⟩
      cases z1 : insAt cn s1 i with
      | none => rw [z1] at q1; exact q1.elim
      | some bf1 =>
        obtain ⟨b1, fs1⟩ := bf1
        rw [z1] at q1
        by_cases hl : ds.length = n
        · simp only [hl, if_true] at q1
          rw [List.append_nil]
          exact meth_fin hW r1 (insAt_eq z1) hv' hvs hl q1
        · simp only [hl, if_false] at q1
          exact q1.elim
theorem eMeth0 (i : Nat) {k : Nat} {cn m x : Str} {sem : SemM} {p apos pos : Pos} {pl : Sem Bool} (F : FnM X.prog X.w X.K X.mg X.base ex k cn m 0 sem) (hr : RoomG k X.A) (tk : Takes X W) (hW : WFlat W)
    (hN : X.N[i]? = some x := by rfl) (hv : Vis X.env.scope x := by first | exact Or.inl rfl | exact Or.inr (Or.inl rfl) | exact Or.inr (Or.inr rfl))
    (hd : (x == ("__debug__" : Str)) = false := by decide) (hcd : (x == ("__classdict__" : Str)) = false := by decide)
    (ht : eval (.Call (.Attribute (.Name x p) m apos) [] [] pos) X.env = (do
      let ov ← eval (.Name x p) X.env
      standAt apos.atName
      let (f, first) ← holding [ov] (getMethod ov m pl)
      callWith pos f first (backTo pos (starEach [] X.env)) (backToKw pos (keywordEach [] X.env))) := by rfl) :
    PE X (.Call (.Attribute (.Name x p) m apos) [] [] pos) (tE X.K ex W (fMeth cn i m 0 sem fNil)) := by
  obtain ⟨C, fa, fd, ps, hC, hcl, hm, ok, hb⟩ := F.ex
  refine PE.imp (pe_methG0 (pl := pl) (pe_var hN hv hd hcd) hcl hm ok hr hb (passE0 tk) ht) fun σ H Q ⟨c, G, s, r, h⟩ => ?_
  have h : Post X.K ex W c G σ _ (match insAt cn s i with
    | some (_, fs0) => if (fs0.lookup m).isNone = true then match insAt cn s i with
        | some (b, fs) => if ([] : List D).length = 0 then methR cn i b sem fs [] s else .bad
        | none => .bad
      else .bad
    | none => .bad) := h
  cases z : insAt cn s i with
  | none => rw [z] at h; exact h.elim
  | some bf =>
    obtain ⟨b, fs⟩ := bf
    rw [z] at h
    dsimp only at h
    obtain ⟨v, hv', ⟨q, ho, rfl, h1, h2, h3, h4, C', dx, fvs, hn, rfl, hpr⟩, _⟩ := r.slot i _ (insAt_eq z)
    have eC : C' = C := by
      have := hn.symm.trans hC
      cases this
      rfl
    subst eC
    cases y : fs.lookup m with
    | some d => simp only [y] at h; exact h.elim
    | none =>
      simp only [y] at h
      rw [if_pos (show (none : Option D).isNone = true from rfl), if_pos (show ([] : List D).length = 0 from rfl)] at h
      refine ⟨_, hv', q, dx, fvs, rfl, h4, (hpr.look m).2 y, ?_⟩
      exact meth_fin hW r (insAt_eq z) hv' .nil rfl h
theorem nNew {k n : Nat} {cn : Str} {sem : SemM} {e : Expr} {es : List Expr} {f : FA} {p pos : Pos} (F : FnI X.prog X.w X.K X.mg X.base ex k cn n sem) (hr : Room (k + 1) X.A) (tk : Takes X W) (hW : WFlat W) (ha : PA X (e :: es) (tA X.K ex W f)) (hg : Gl X cn := by rfl)
    (hdb : (cn == ("__debug__" : Str)) = false := by decide) (he : starEach (e :: es) X.env = (false, eval e X.env) :: starEach es X.env := by rfl) (hpl : (backTo pos (starEach es X.env)).any (·.1) = false := by rfl) :
    PE X (.Call (.Name cn p) (e :: es) [] pos) (tN X.K ex W (fNew cn n sem f)) := by
  obtain ⟨C, fa, fd, ps, hC, hm, mk, ok, hb⟩ := F.ex
  refine PE.imp (pe_make mk ok hr hg hm hb .nil (passE0' tk) ha hdb he hpl) fun σ H Q ⟨c, G, s, r, q⟩ => inA r q fun ds s1 G1 H1 vs e1 r1 hvs q1 => ?_
  by_cases hl : ds.length = n
  · rw [if_pos hl] at q1
    intro x dx hx hdx hne
    obtain ⟨r2, _⟩ := r1.newOb (ho := .own x) hdx
    have hx2 : upd H1 dx (.own x) x = none := by rw [upd_ne hne.symm]; exact hx
    obtain ⟨r3, g3, h03, w3, n3⟩ := r2.newOb (ho := .ins C dx []) hx2
    rw [List.append_nil]
    refine ⟨c.wa, c.sc, G1, hide x (upd (upd H1 dx (.own x)) x (.ins C dx [])), s1.w, [], ds, x, vs, r3.baseHide x, rfl, hl, hvs, ⟨C, dx, [], hC, upd_same, .nil⟩, g3, if_pos rfl, w3, ?_⟩
    unfold newR at q1
    cases z : sem [] ds s1.w with
    | ret d fs' w' =>
      rw [z] at q1
      cases d with
      | none =>
        intro v G' H' bb hi hg hvd
        obtain ⟨e2, r4⟩ := r3.afterHide upd_same rfl h03 n3 bb
        obtain ⟨C2, dx2, fvs2, hn2, hH2, hpr2⟩ := hi
        cases hvd
        exact ⟨rfl, q1 G' H' e2 r4 (.ref x) ⟨⟨⟨x, _, rfl, hg, h03, w3, hH2, C2, dx2, fvs2, hn2, rfl, hpr2⟩, fun z => nomatch z⟩, rfl, n3⟩⟩
      | _ => exact q1.elim
    | exc k as fs' w' =>
      rw [z] at q1
      intro cls dx' G' H' bb hi hg hx σ'
      obtain ⟨e2, r4⟩ := r3.afterHide upd_same rfl h03 n3 bb
      exact hW _ _ _ _ _ (q1 cls dx' G' H' e2 r4 hx)
    | bad => rw [z] at q1; exact q1.elim
  · rw [if_neg hl] at q1
    exact q1.elim
end
/-! ### the defs of methods -/
section
variable {P : Program} {w : World} {K : PySem.W.Frag} {mg : Str → Option Value} {base : Heap} {ex : ExT}
theorem fnM0 {m qual cn : Str} {st : Stmt} {f : Addr} {fd : FuncData} {N ps : List Str} {k n : Nat} {fb : FO} (F : Fun K m qual st f fd) (Sc : FnScope N ps (defScope st)) (hn : n + 1 = ps.length)
    (hN : ps.length ≤ N.length)
    (body : ∀ (cdv : Value) (A : Around) (outer : List Env) (s : Shared) (H : Hp) (E : XK), Room k (A.deeper (envOfC qual (defScope st) s.heap.objs.size f cdv)) →
      PSs (cxOf (L2.CX P w) P w K mg base N qual (defScope st) f cdv A outer s H E) (defBody st) (tS K ex (fun cls d _ H => E cls d H) fb)) :
    FnOk P w K mg base (L2.CX P w) (k + 1) f fd ps (spM K ex cn n (semOfM N.length cn fb)) := by
  refine F.okX Sc (fun vs H Q E hh => ?_) (fun cdv A outer s H vs Q E hr hh => ⟨_, body cdv A outer s H E hr, ?_⟩)
  · obtain ⟨wa, sc, G, H0, w, fs, ds, p, vs', _, e, hl, hd, _⟩ := hh
    have z := hd.len
    subst e
    rw [List.length_cons]
    omega
  · obtain ⟨wa, sc, G, H0, w, fs, ds, p, vs', b, rfl, hl, hd, hi, hG, h0, hw, q⟩ := hh
    refine ⟨⟨wa, sc, G, H0, p, []⟩, G, startM N.length cn fs ds w, startM_rel b hd (by omega) hi hG h0 hw rfl, ?_⟩
    unfold semOfM at q
    cases z : fb (startM N.length cn fs ds w) with
    | nx s' =>
      rw [z] at q
      unfold outM at q
      dsimp only at q
      cases hz : insAt cn s' 0 with
      | none => rw [hz] at q; exact q.elim
      | some bf =>
       obtain ⟨bb, fs'⟩ := bf
       rw [hz] at q
       cases bb with
       | false => exact q.elim
       | true =>
        exact fun σ' G' H' _ r' => by
          obtain ⟨i1, i2⟩ := r'.insAt0 hz
          exact q _ G' H' r'.b i1 i2 .non
    | rt d s' =>
      rw [z] at q
      unfold outM at q
      dsimp only at q
      cases hz : insAt cn s' 0 with
      | none => rw [hz] at q; exact q.elim
      | some bf =>
       obtain ⟨bb, fs'⟩ := bf
       rw [hz] at q
       cases bb with
       | false => exact q.elim
       | true =>
        exact fun v σ' G' H' _ r' hv => by
          obtain ⟨i1, i2⟩ := r'.insAt0 hz
          exact q _ G' H' r'.b i1 i2 hv
    | exc k as s' =>
      rw [z] at q
      unfold outM at q
      dsimp only at q
      cases hz : insAt cn s' 0 with
      | none => rw [hz] at q; exact q.elim
      | some bf =>
       obtain ⟨bb, fs'⟩ := bf
       rw [hz] at q
       cases bb with
       | false => exact q.elim
       | true =>
        exact fun cls dx σ' G' H' _ r' hx => by
          obtain ⟨i1, i2⟩ := r'.insAt0 hz
          exact q _ _ G' H' r'.b i1 i2 hx
    | bk s' => rw [z] at q; exact q.elim
    | ct s' => rw [z] at q; exact q.elim
    | bad => rw [z] at q; exact q.elim
theorem fnM0G {m qual cn : Str} {st : Stmt} {f : Addr} {fd : FuncData} {N ps : List Str} {k n : Nat} {fb : FO} (F : Fun K m qual st f fd) (Sc : FnScope N ps (defScope st)) (hn : n + 1 = ps.length)
    (hN : ps.length ≤ N.length)
    (body : ∀ (cdv : Value) (A : Around) (outer : List Env) (s : Shared) (H : Hp) (E : XK), RoomG k (A.deeper (envOfC qual (defScope st) s.heap.objs.size f cdv)) →
      PSs (cxOf (L2.CX P w) P w K mg base N qual (defScope st) f cdv A outer s H E) (defBody st) (tS K ex (fun cls d _ H => E cls d H) fb)) :
    FnG P w K mg base (L2.CX P w) (k + 1) f fd ps (spM K ex cn n (semOfM N.length cn fb)) := by
  refine okG F Sc (fun vs H Q E hh => ?_) (fun cdv A outer s H vs Q E hr hh => ⟨_, body cdv A outer s H E hr, ?_⟩)
  · obtain ⟨wa, sc, G, H0, w, fs, ds, p, vs', _, e, hl, hd, _⟩ := hh
    have z := hd.len
    subst e
    rw [List.length_cons]
    omega
  · obtain ⟨wa, sc, G, H0, w, fs, ds, p, vs', b, rfl, hl, hd, hi, hG, h0, hw, q⟩ := hh
    refine ⟨⟨wa, sc, G, H0, p, []⟩, G, startM N.length cn fs ds w, startM_rel b hd (by omega) hi hG h0 hw rfl, ?_⟩
    unfold semOfM at q
    cases z : fb (startM N.length cn fs ds w) with
    | nx s' =>
      rw [z] at q
      unfold outM at q
      dsimp only at q
      cases hz : insAt cn s' 0 with
      | none => rw [hz] at q; exact q.elim
      | some bf =>
       obtain ⟨bb, fs'⟩ := bf
       rw [hz] at q
       cases bb with
       | false => exact q.elim
       | true =>
        exact fun σ' G' H' _ r' => by
          obtain ⟨i1, i2⟩ := r'.insAt0 hz
          exact q _ G' H' r'.b i1 i2 .non
    | rt d s' =>
      rw [z] at q
      unfold outM at q
      dsimp only at q
      cases hz : insAt cn s' 0 with
      | none => rw [hz] at q; exact q.elim
      | some bf =>
       obtain ⟨bb, fs'⟩ := bf
       rw [hz] at q
       cases bb with
       | false => exact q.elim
       | true =>
        exact fun v σ' G' H' _ r' hv => by
          obtain ⟨i1, i2⟩ := r'.insAt0 hz
          exact q _ G' H' r'.b i1 i2 hv
    | exc k as s' =>
      rw [z] at q
      unfold outM at q
      dsimp only at q
      cases hz : insAt cn s' 0 with
      | none => rw [hz] at q; exact q.elim
      | some bf =>
       obtain ⟨bb, fs'⟩ := bf
       rw [hz] at q
       cases bb with
       | false => exact q.elim
       | true =>
        exact fun cls dx σ' G' H' _ r' hx => by
          obtain ⟨i1, i2⟩ := r'.insAt0 hz
          exact q _ _ G' H' r'.b i1 i2 hx
    | bk s' => rw [z] at q; exact q.elim
    | ct s' => rw [z] at q; exact q.elim
    | bad => rw [z] at q; exact q.elim
theorem fnM {m qual cn : Str} {C : Addr} {fns : List Str} {st : Stmt} {f : Addr} {fd : FuncData} {N ps : List Str} {k n : Nat} {fb : FO} (T : ClsF K cn C fns) (M : Meth K C m f) (F : Fun K m qual st f fd) (Sc : FnScope N ps (defScope st)) (hn : n + 1 = ps.length)
    (hN : ps.length ≤ N.length)
    (body : ∀ (cdv : Value) (A : Around) (outer : List Env) (s : Shared) (H : Hp) (E : XK), RoomG k (A.deeper (envOfC qual (defScope st) s.heap.objs.size f cdv)) →
      PSs (cxOf (L2.CX P w) P w K mg base N qual (defScope st) f cdv A outer s H E) (defBody st) (tS K ex (fun cls d _ H => E cls d H) fb))
    (hb : Binds K fd ps []) : FnM P w K mg base ex (k + 1) cn m n (semOfM N.length cn fb) :=
  ⟨C, f, fd, ps, T.at_, T.cl, M, fnM0G F Sc hn hN body, hb⟩
theorem fnI {qual cn : Str} {C : Addr} {fns : List Str} {st : Stmt} {f : Addr} {fd : FuncData} {N ps : List Str} {k n : Nat} {fb : FO} (T : ClsF K cn C fns) (M : Mk K C f) (hm : mg cn = some (.ref C)) (F : Fun K "__init__" qual st f fd) (Sc : FnScope N ps (defScope st)) (hn : n + 1 = ps.length)
    (hN : ps.length ≤ N.length)
    (body : ∀ (cdv : Value) (A : Around) (outer : List Env) (s : Shared) (H : Hp) (E : XK), Room k (A.deeper (envOfC qual (defScope st) s.heap.objs.size f cdv)) →
      PSs (cxOf (L2.CX P w) P w K mg base N qual (defScope st) f cdv A outer s H E) (defBody st) (tS K ex (fun cls d _ H => E cls d H) fb))
    (hb : Binds K fd ps []) : FnI P w K mg base ex (k + 1) cn n (semOfM N.length cn fb) :=
  ⟨C, f, fd, ps, T.at_, hm, M, fnM0 F Sc hn hN body, hb⟩
theorem fnM_bad {m qual cn : Str} {C : Addr} {fns : List Str} {st : Stmt} {f : Addr} {fd : FuncData} {ps : List Str} {k n : Nat} (T : ClsF K cn C fns) (M : Meth K C m f) (F : Fun K m qual st f fd) (hb : Binds K fd ps []) (hn : n + 1 = ps.length) : FnM P w K mg base ex k cn m n (fun _ _ _ => .bad) :=
  ⟨C, f, fd, ps, T.at_, T.cl, M, ⟨fun vs H Q E ⟨_, _, _, _, _, _, ds, _, vs', _, e, hl, hd, _⟩ => (by subst e; have := hd.len; rw [List.length_cons]; omega), fun _ _ _ _ _ _ _ _ _ _ _ _ _ ⟨_, _, _, _, _, _, _, _, _, _, _, _, _, _, _, _, _, q⟩ => q.elim⟩, hb⟩
end
end PD
/-! PD17: dicts of ints and texts: d[k], d[k] = v, displays, dict(d), d.update(..), dict comprehensions. -/
namespace PD
open PySem PySem.Spec L2
open PyProof.Rows hiding St
variable [WI]
/-! ### plain functions -/
def kD : D → Option Key
  | .int i => some (.inl i)
  | .str x => some (.inr x)
  | _ => none
theorem kD_keyD (k : Key) : kD (keyD k) = some k := by cases k <;> rfl
def lkD (es : List (Key × D)) (k : Key) : Option D := (es.find? fun p => decide (p.1 = k)).map (·.2)
def putKD (es : List (Key × D)) (k : Key) (d : D) : List (Key × D) :=
  if (es.any fun p => decide (p.1 = k)) = true then es.map (fun p => if p.1 = k then (p.1, d) else p) else es ++ [(k, d)]
def mergeKD (es more : List (Key × D)) : List (Key × D) := more.foldl (fun acc p => putKD acc p.1 p.2) es
def kesD : List (D × D) → Option (List (Key × D))
  | [] => some []
  | (k, d) :: r => (kD k).bind fun k => (kesD r).map fun l => (k, d) :: l
section
variable {K : PySem.W.Frag} {G : Hp}
theorem PrAll.find {l : List (Key × V)} {m : List (Key × D)} (h : PrAll K G l m) (k : Key) : (∀ d, lkD m k = some d → ∃ v, valV l k = some v ∧ Dp K G v d) ∧ (lkD m k = none → valV l k = none) := by
  induction h with
  | nil => exact ⟨(fun _ e => nomatch e), fun _ => rfl⟩
  | @cons k' v d l m h1 h2 ih =>
    by_cases hk : k' = k
    · subst hk
      have e1 : lkD ((k', d) :: m) k' = some d := by simp [lkD, List.find?_cons]
      have e2 : valV ((k', v) :: l) k' = some v := by simp [valV, List.find?_cons]
      rw [e1, e2]
      exact ⟨fun d' e => (by cases e; exact ⟨v, rfl, h1⟩), (fun e => nomatch e)⟩
    · have e1 : lkD ((k', d) :: m) k = lkD m k := by simp [lkD, List.find?_cons, hk]
      have e2 : valV ((k', v) :: l) k = valV l k := by simp [valV, List.find?_cons, hk]
      rw [e1, e2]
      exact ih
theorem PrAll.any {l : List (Key × V)} {m : List (Key × D)} (h : PrAll K G l m) (k : Key) : (l.any fun p => decide (p.1 = k)) = (m.any fun p => decide (p.1 = k)) := by
  induction h with
  | nil => rfl
  | cons _ _ ih => rw [List.any_cons, List.any_cons, ih]
theorem PrAll.putK {l : List (Key × V)} {m : List (Key × D)} (h : PrAll K G l m) {k : Key} {v : V} {d : D} (hv : Dp K G v d) : PrAll K G (L2.putK l k v) (putKD m k d) := by
  unfold L2.putK putKD
  rw [h.any k]
  by_cases a : (m.any fun p => decide (p.1 = k)) = true
  · rw [if_pos a, if_pos a]
    clear a
    induction h with
    | nil => exact .nil
    | @cons k' u e l m h1 h2 ih =>
      rw [List.map_cons, List.map_cons]
      by_cases hk : k' = k
      · simp only [hk, if_true]
        exact .cons hv ih
      · simp only [hk, if_false]
        exact .cons h1 ih
  · rw [if_neg a, if_neg a]
    clear a
    induction h with
    | nil => exact .cons hv .nil
    | cons h1 _ ih => exact .cons h1 ih
theorem PrAll.merge {l2 : List (Key × V)} {m2 : List (Key × D)} (h2 : PrAll K G l2 m2) : ∀ {l : List (Key × V)} {m : List (Key × D)}, PrAll K G l m → PrAll K G (mergeK l l2) (mergeKD m m2) := by
  induction h2 with
  | nil => exact fun h => h
  | cons h1 _ ih => exact fun h => ih (h.putK h1)
theorem DpKvs.pr : ∀ {l : List (Key × V)} {es : List (D × D)}, DpKvs K G l es → ∃ m, kesD es = some m ∧ PrAll K G l m ∧ es = m.map fun p => (keyD p.1, p.2)
  | [], [], _ => ⟨[], rfl, .nil, rfl⟩
  | _ :: _, _ :: _, h => by
    cases h with
    | cons h1 h2 =>
      obtain ⟨m, e1, e2, e3⟩ := DpKvs.pr h2
      exact ⟨_ :: m, by rw [kesD, kD_keyD, Option.bind_some, e1]; rfl, .cons h1 e2, by rw [List.map_cons, e3]⟩
end
@[simp] theorem kesD_dic (m : List (Key × D)) : kesD (m.map fun p => (keyD p.1, p.2)) = some m := by
  induction m with
  | nil => rfl
  | cons p m ih => rw [List.map_cons, kesD, kD_keyD, Option.bind_some, ih]; rfl
/-! ### d[k] -/
/-- an item of a list, a tuple, a text, a dict -/
def dIxX (a b : D) : Option D := match a with
  | .dict es => (kesD es).bind fun m => (kD b).bind fun k => lkD m k
  | a => dIx a b
def fIxX (i : Nat) (g : FE) : FE := fun s => match look s i with
  | none => .bad
  | some _ => (g s).bind fun b s => R.of ((look s i).bind fun a => dIxX a b) s
theorem PE.or {X : Cx} {e : Expr} {t t' : TE} (h : PE X e t) (h' : PE X e t') : PE X e (fun σ H Q => t σ H Q ∨ t' σ H Q) := ⟨fun pins s σ H Q I q => q.elim (h.run pins s σ H Q I) (h'.run pins s σ H Q I)⟩
theorem PS.or {X : Cx} {st : Stmt} {t t' : TS} (h : PS X st t) (h' : PS X st t') : PS X st (fun D σ H => t D σ H ∨ t' D σ H) := ⟨fun pins s σ H D I q => q.elim (h.run pins s σ H D I) (h'.run pins s σ H D I)⟩
theorem kV_of {K : PySem.W.Frag} {G : Hp} {v : V} {d : D} {k : Key} (h : Dp K G v d) (e : kD d = some k) : v = kV k := by
  cases h with
  | int i => cases e; rfl
  | str x => cases e; rfl
  | _ => cases e
theorem hu1 {A : Around} {k : Nat} (hr : Room k A) : A.units + 1 < cLine := by have := hr.un; omega
theorem Rel.lookD {K : PySem.W.Frag} {c : Act} {G H : Hp} {σ : St} {s : S} {i : Nat} {es : List (D × D)} (r : Rel K c G H σ s) (h : PD.look s i = some (.dict es)) :
    ∃ p kvs m, σ[i]? = some (some (.ref p)) ∧ H p = some (.dK kvs) ∧ kesD es = some m ∧ PrAll K G kvs m := by
  unfold PD.look at h
  split at h
  · rename_i d' hd
    obtain ⟨v, hv, he⟩ := r.slot i _ hd
    cases h
    have he : Dp K G v (.dict es) := he
    cases he with
    | @dct a kvs es hH hkv =>
      obtain ⟨m, m1, m2, _⟩ := hkv.pr
      exact ⟨a, kvs, m, hv, r.b.sub _ _ hH, m1, m2⟩
  · cases h
  · rename_i m hd
    obtain ⟨v, hv, p, ho, rfl, _, _, _, h4, ⟨kvs, rfl, h5⟩⟩ := r.slot i _ hd
    cases h
    exact ⟨p, kvs, m, hv, h4, kesD_dic m, h5⟩
  · cases h
def isDL (i : Nat) (g : FE) (s : S) : Bool := match g s with
  | .ok _ s1 => (match look s1 i with
    | some (.dict _) => true
    | _ => false)
  | _ => false
theorem fIx_eq {i : Nat} {g : FE} {s : S} (h : isDL i g s = false) : fIxX i g s = fIxS i g s := by
  unfold fIxX fIxS
  unfold isDL at h
  cases look s i with
  | none => rfl
  | some a =>
    dsimp only
    cases z : g s with
    | bad => rfl
    | exc k as s1 => rfl
    | ok d s1 =>
      rw [z] at h
      simp only [R.bind_ok]
      dsimp only at h
      cases z2 : look s1 i with
      | none => rfl
      | some a1 =>
        rw [z2] at h
        cases a1 with
        | dict es => cases h
        | _ => rfl
section
variable {X : Cx} {ex : ExT} {W : WX}
theorem eIxX (i : Nat) {k : Nat} {x : Str} {b : Expr} {g : FE} {pos p : Pos} (hr : Room k X.A) (hg : PE X b (tE X.K ex W g)) (hN : X.N[i]? = some x := by rfl) (hv : Vis X.env.scope x := by first | exact Or.inl rfl | exact Or.inr (Or.inl rfl) | exact Or.inr (Or.inr rfl))
    (hd : (x == ("__debug__" : Str)) = false := by decide) (hcd : (x == ("__classdict__" : Str)) = false := by decide) (hs : PlainIx b := by exact fun _ _ => rfl) (hns : NoSl b := by exact fun _ _ => rfl) : PE X (.Subscript (.Name x p) b pos) (tE X.K ex W (fIxX i g)) := by
  refine PE.imp (PE.or (eIxS (ex := ex) (W := W) i hg hN hv hd hcd hs) (pe_dget (hu1 hr) (pe_var (i := i) hN hv hd hcd) hg hns)) fun σ H Q ⟨c, G, s, r, h⟩ => ?_
  cases hi : isDL i g s with
  | false => exact .inl ⟨c, G, s, r, by rw [← fIx_eq hi]; exact h⟩
  | true =>
    have h : Post X.K ex W c G σ (fun d G' H' _ => ∀ v, Dp X.K G' v d → Q v H') (match look s i with
      | none => .bad
      | some _ => (g s).bind fun b s => R.of ((look s i).bind fun a => dIxX a b) s) := h
    cases z0 : look s i with
    | none => rw [z0] at h; exact h.elim
    | some a0 =>
      rw [z0] at h
      obtain ⟨v, hv', hd0⟩ := r.look z0
      dsimp only at h
      cases z1 : g s with
      | bad => unfold isDL at hi; rw [z1] at hi; cases hi
      | exc k as s1 => unfold isDL at hi; rw [z1] at hi; cases hi
      | ok b s1 =>
      rw [z1] at h
      simp only [R.bind_ok] at h
      refine .inr ⟨v, hv', c, G, s, r, ?_⟩
      rw [z1]
      intro G1 H1 e1 r1 u hu
      have h1 := h.up e1
      cases z2 : look s1 i with
      | none => rw [z2] at h1; exact h1.elim
      | some a1 =>
        rw [z2] at h1
        simp only [Option.bind_some] at h1
        have hdic : ∀ es, a1 = .dict es → ∃ a w, v = .ref a ∧ DGet H1 a u (some w) ∧ Q w H1 := fun es ea => by
          subst ea
          obtain ⟨p', kvs, m, q1, q2, q3, q4⟩ := r1.lookD z2
          rw [hv'] at q1
          cases q1
          cases kz : kD b with
          | none => simp only [dIxX, q3, Option.bind_some, kz, Option.bind_none] at h1; exact h1.elim
          | some k =>
            cases lz : lkD m k with
            | none => simp only [dIxX, q3, Option.bind_some, kz, lz] at h1; exact h1.elim
            | some dd =>
              simp only [dIxX, q3, Option.bind_some, kz, lz] at h1
              obtain ⟨w, hw, hwd⟩ := (q4.find k).1 dd lz
              have hku := kV_of hu kz
              subst hku
              refine ⟨p', w, rfl, ?_, h1.val r1 hwd⟩
              rw [← hw]
              exact .inl ⟨kvs, k, .inl q2, rfl, rfl⟩
        cases a1 with
        | dict es => exact hdic es rfl
        | _ =>
          unfold isDL at hi
          rw [z1] at hi
          dsimp only at hi
          rw [z2] at hi
          cases hi
end
end PD
/-! PD18: d[k] = v, displays, dict(d), d.update(..), dict comprehensions. -/
namespace PD
open PySem PySem.Spec L2
open PyProof.Rows hiding St
variable [WI]
def isDic (s : S) (i : Nat) : Bool := match s.ρ[i]? with
  | some (some (.dic _)) => true
  | _ => false
/-- name[k] = e, a dict of its own -/
def sSetD (i : Nat) (f g : FE) : FO := fun s => (f s).stm fun d s => match look s i with
  | none => .bad
  | some _ => (g s).stm fun j s => match s.ρ[i]?, kD j with
    | some (some (.dic es)), some k => if es.length < sizeLine then .nx (s.put i (.dic (putKD es k d))) else .bad
    | _, _ => .bad
section
variable {K : PySem.W.Frag} {c : Act} {G H : Hp} {σ : St} {s : S} {p : Addr}
/-- a slot's dict is changed -/
theorem Rel.setDic {i : Nat} {es es' : List (Key × D)} {kvs' : List (Key × V)} (r : Rel K c G H σ s) (h : s.ρ[i]? = some (some (.dic es))) (hv : σ[i]? = some (some (.ref p))) (hd : PrAll K G kvs' es') : Rel K c G (upd H p (.dK kvs')) σ (s.put i (.dic es')) := by
  obtain ⟨q, ho, hq, r2, b2, he⟩ := r.takeOb h rfl
  rw [hv] at hq
  cases hq
  obtain ⟨r3, b3⟩ := r2.setBeside b2 (.dK kvs')
  exact r3.backOb hv b3.ne ⟨p, _, rfl, b3.g, b3.h0, b3.wa, b3.at_, kvs', rfl, hd⟩
theorem Rel.dicAt {i : Nat} {es : List (Key × D)} (r : Rel K c G H σ s) (h : s.ρ[i]? = some (some (.dic es))) : ∃ p kvs, σ[i]? = some (some (.ref p)) ∧ H p = some (.dK kvs) ∧ PrAll K G kvs es := by
  obtain ⟨v, hv, p, ho, rfl, _, _, _, h4, ⟨kvs, rfl, h5⟩⟩ := r.slot i _ h
  exact ⟨p, kvs, hv, h4, h5⟩
end
section
variable {X : Cx} {ex : ExT} {W : WX}
theorem kSetD (i : Nat) {k : Nat} {x : Str} {e ix : Expr} {f g : FE} {p spos pos : Pos} (hr : Room k X.A) (he : PE X e (tE X.K ex W f)) (hg : PE X ix (tE X.K ex W g)) (hN : X.N[i]? = some x := by rfl) (hv : Vis X.env.scope x := by first | exact Or.inl rfl | exact Or.inr (Or.inl rfl) | exact Or.inr (Or.inr rfl))
    (hd : (x == ("__debug__" : Str)) = false := by decide) (hcd : (x == ("__classdict__" : Str)) = false := by decide) (hs : swapsWith e (some (.Subscript (.Name x p) ix spos)) pos.line X.env = pure false := by rfl) :
    PS X (.Assign [.Subscript (.Name x p) ix spos] e pos) (tS X.K ex W (sSetD i f g)) :=
  PS.imp (ps_dput (hu1 hr) (pe_var hN hv hd hcd) hg he hs) fun En σ H ⟨c, G, s, r, h⟩ => soE r h fun d s1 G1 H1 v e1 r1 hv h1 => by
    cases z : look s1 i with
    | none => simp only [z] at h1; exact h1.elim
    | some d0 =>
      simp only [z] at h1
      obtain ⟨u, hu, _⟩ := r1.look z
      refine ⟨u, hu, soE r1 h1 fun j s2 G2 H2 v2 e2 r2 hv2 h2 => ?_⟩
      split at h2
      · rename_i es k hes hk
        obtain ⟨p', kvs, q1, q2, q3⟩ := r2.dicAt hes
        rw [hu] at q1
        cases q1
        by_cases hl : es.length < sizeLine
        · rw [if_pos hl] at h2
          have ek := kV_of hv2 hk
          subst ek
          exact ⟨p', _, rfl, .inl ⟨kvs, k, q2, rfl, by rw [q3.len]; exact hl, rfl⟩, h2 σ G2 _ (Same.refl _) (r2.setDic hes hu (q3.putK (hv.up e2)))⟩
        · rw [if_neg hl] at h2
          exact h2.elim
      · exact h2.elim
/-! ### dict(e), e a dict -/
def fDict (f : FE) : S → R Ent := fun s => (f s).bind fun d s => match d with
  | .dict es => (R.of (kesD es) s).bind fun m s => .ok (.dic m) s
  | _ => .bad
theorem nDict {e : Expr} {f : FE} {p pos : Pos} (hm : X.mg "dict" = none) (he : PE X e (tE X.K ex W f)) (hg : Gl X "dict" := by rfl) (hst : starEach [e] X.env = (false, eval e X.env) :: starEach [] X.env := by rfl) (hpl : (backTo pos (starEach [] X.env)).any (·.1) = false := by rfl) :
    PE X (.Call (.Name "dict" p) [e] [] pos) (tN X.K ex W (fDict f)) :=
  PE.imp (pe_callTy call_dictD hg hm (by decide +kernel) (pa_cons he pa_nil hst) (by decide) (by decide) hst hpl) fun σ H Q ⟨_, _, _, r, q⟩ => inE r q fun d s1 G1 H1 v e1 r1 hv q1 => by
    cases d with
    | dict es =>
      cases hv with
      | @dct a kvs es hH hkv =>
        obtain ⟨m, m1, m2, _⟩ := hkv.pr
        dsimp only at q1
        rw [m1] at q1
        refine ⟨a, kvs, rfl, .inl (r1.b.sub _ _ hH), fun p' hp => ?_⟩
        obtain ⟨r2, g2, h02, w2, n2⟩ := r1.newOb (ho := .dK kvs) hp
        exact q1 G1 _ (Same.refl _) r2 _ ⟨⟨p', _, rfl, g2, h02, w2, upd_same, kvs, rfl, m2⟩, rfl, n2⟩
    | _ => exact q1.elim
/-! ### displays -/
abbrev FPr := FE × FE
def fPairs : List FPr → S → R (List (Key × D))
  | [], s => .ok [] s
  | (f, g) :: r, s => (f s).bind fun k s => (g s).bind fun d s => (R.of (kD k) s).bind fun k s => (fPairs r s).bind fun l s => .ok ((k, d) :: l) s
def fDisp (l : List FPr) : S → R Ent := fun s => (fPairs l s).bind fun m s => if m.length ≤ 15 then .ok (.dic (mergeKD [] m)) s else .bad
/-- the pairs' readings -/
inductive PrsOk (X : Cx) (ex : ExT) (W : WX) : List (Option Expr) → List Expr → List FPr → List (TE × TE) → Prop
  | nil : PrsOk X ex W [] [] [] []
  | cons {k v : Expr} {ks : List (Option Expr)} {vs : List Expr} {f g : FE} {l : List FPr} {trs : List (TE × TE)} : PE X k (tE X.K ex W f) → PE X v (tE X.K ex W g) → PrsOk X ex W ks vs l trs → PrsOk X ex W (some k :: ks) (v :: vs) ((f, g) :: l) ((tE X.K ex W f, tE X.K ex W g) :: trs)
theorem PrsOk.pps {ks : List (Option Expr)} {vs : List Expr} {l : List FPr} {trs : List (TE × TE)} {pos : Pos} (h : PrsOk X ex W ks vs l trs) : PPs X pos ks vs trs := by
  induction h with
  | nil => exact pps_nil
  | cons h1 h2 _ ih => exact pps_cons h1 h2 ih
theorem PrsOk.read {ks : List (Option Expr)} {vs : List Expr} {l : List FPr} {trs : List (TE × TE)} (h : PrsOk X ex W ks vs l trs) : ∀ {c : Act} {G H : Hp} {σ : St} {s : S} {Q : List (V × V) → Hp → Prop}, Rel X.K c G H σ s →
    Post X.K ex W c G σ (fun m G' H' s' => ∀ kvs, PrAll X.K G' kvs m → Q (kvs.map fun kv => (kV kv.1, kv.2)) H') (fPairs l s) → tPairs trs σ H Q := by
  induction h with
  | nil => exact fun r q => q.val' r [] .nil
  | @cons k v ks vs f g l trs h1 h2 h3 ih =>
    intro c G H σ s Q r q
    have q : Post X.K ex W c G σ _ ((f s).bind fun k s => (g s).bind fun d s => (R.of (kD k) s).bind fun k s => (fPairs l s).bind fun l s => .ok ((k, d) :: l) s) := q
    refine inE r q fun kd s1 G1 H1 u e1 r1 hu q1 => inE r1 q1 fun d s2 G2 H2 y e2 r2 hy q2 => ?_
    cases kz : kD kd with
    | none => rw [kz] at q2; exact q2.elim
    | some kk =>
      rw [kz] at q2
      have ek := kV_of hu kz
      subst ek
      refine ih r2 (Post.seq q2 fun m s3 G3 H3 e3 r3 q3 kvs hk => ?_)
      exact q3.val' r3 ((kk, y) :: kvs) (.cons (hy.up e3) hk)
theorem nDisp {ks : List (Option Expr)} {vs : List Expr} {l : List FPr} {trs : List (TE × TE)} {pos : Pos} (h : PrsOk X ex W ks vs l trs) (hall : ks.all (·.isSome) = true := by rfl) (hl : ks.length = vs.length := by rfl) (h0 : ks ≠ [] := by simp) (h15 : ks.length ≤ 15 := by simp) :
    PE X (.Dict ks vs pos) (tN X.K ex W (fDisp l)) := PE.imp (pe_disp h.pps hall hl h0 h15) fun σ H Q ⟨c, G, s, r, q⟩ => by
  intro p hp
  have q : Post X.K ex W c G σ (fun e G' H' s' => ∀ v, FreshE X.K c G' H' σ s' v e → Q v H') ((fPairs l s).bind fun m s => if m.length ≤ 15 then .ok (.dic (mergeKD [] m)) s else .bad) := q
  obtain ⟨r1, g1, h01, w1, n1⟩ := r.newOb (ho := .dK []) hp
  have b : Beside c G (upd H p (.dK [])) σ s p (.dK []) := ⟨upd_same, g1, h01, w1, n1, rfl⟩
  have g0 : c.G0 p = none := r1.b.g0.free g1
  refine h.read (r1.prot b) (Post.seqP rfl h01 g0 w1 q fun m s2 G2 H2 e2 r2 b2 q2 kvs hk => ?_)
  by_cases hm : m.length ≤ 15
  · rw [if_pos hm] at q2
    obtain ⟨r3, b3⟩ := r2.setBeside b2 (.dK (mergeK [] kvs))
    exact ⟨b2.at_, kvs, rfl, by rw [hk.len]; exact hm, q2 G2 _ (Same.refl _) r3 _ ⟨⟨p, _, rfl, b3.g, b3.h0, b3.wa, b3.at_, _, rfl, PrAll.merge hk .nil⟩, rfl, b3.ne⟩⟩
  · rw [if_neg hm] at q2
    exact q2.elim
/-- {} -/
def fDic0 : S → R Ent := fun s => .ok (.dic []) s
theorem nDic0 {pos : Pos} : PE X (.Dict [] [] pos) (tN X.K ex W fDic0) := PE.imp pe_dnewK fun σ H Q ⟨c, G, s, r, q⟩ p hp => by
  obtain ⟨r1, g1, h01, w1, n1⟩ := r.newOb (ho := .dK []) hp
  exact q G _ (Same.refl _) r1 _ ⟨⟨p, _, rfl, g1, h01, w1, upd_same, [], rfl, .nil⟩, rfl, n1⟩
end
/-! ### d.update(e), e a new dict -/
section
variable {X : Cx} {pins : List (Addr × Obj)} {σ : St} {H : Hp} {s : Shared} {a b : Addr}
theorem upd_call {kvs more : List (Key × V)} {A : Around} {E : Value → Shared → Prop} {Q : Value → Shared → Prop} (I : Inv X pins σ H s) (ha : H a = some (.dK kvs)) (hb : H b = some (.dK more)) (hab : a ≠ b) (hz : kvs.length + more.length ≤ sizeLine)
    (fin : ∀ s', Inv X pins σ (upd H a (.dK (mergeK kvs more))) s' → Q .none s') : wpAny (model X.prog X.w) A (call (.builtin "dict.update") [.ref a, .ref b]) Q E s := by
  obtain ⟨z1, n1, ws, rel1, d1⟩ := dk_of I.hok ha
  obtain ⟨z2, n2, us, rel2, d2⟩ := dk_of I.hok hb
  have len2 : (mergeK kvs more).length ≤ kvs.length + more.length := by
    have go : ∀ (m l : List (Key × V)), (mergeK l m).length ≤ l.length + m.length := by
      intro m
      induction m with
      | nil => intro l; exact Nat.le_refl _
      | cons q m ih =>
        intro l
        have h1 := ih (putK l q.1 q.2)
        have h2 := length_putK l q.1 q.2
        show (mergeK (putK l q.1 q.2) m).length ≤ _
        rw [List.length_cons]
        omega
    exact go more kvs
  refine call_meetsIn PySem.F.slot_dict_update d1.typeIs PySem.F.entry_dict_update (PySem.F.args_dict_update_2 _ _) (meets_dict_update (mixKind X.prog X.w) a b hab n2) ⟨ws, us, d1, d2, by rw [← rel1.length, ← rel2.length]; exact hz, fun h' dd _ sb => fin _ ?_⟩
  have at_ : ∃ q, h'.get? a = some q := let ⟨q, _, _, hq, _⟩ := dd; ⟨q, hq⟩
  exact d_write (t' := s.toks) I (by rw [ha]; exact True.intro) sb at_ (dk_new (by omega) n1 (rel2.merge rel1) dd)
end
def tUpd (td te : TE) : TE := fun σ H Q => td σ H fun x H1 => ∃ a, x = .ref a ∧ IsD H1 a ∧ te σ H1 fun y H2 => ∃ b kvs more, y = .ref b ∧ a ≠ b ∧ H2 a = some (.dK kvs) ∧ H2 b = some (.dK more) ∧ kvs.length + more.length ≤ sizeLine ∧ Q .non (upd H2 a (.dK (mergeK kvs more)))
theorem pe_upd {X : Cx} {o e : Expr} {apos cpos : Pos} {td te : TE} (ho : PE X o td) (he : PE X e te) (m : M1 X o "update" apos e cpos) : PE X (.Call (.Attribute o "update" apos) [e] [] cpos) (tUpd td te) := by
  refine ⟨fun pins s σ H Q I h => ?_⟩
  refine wpAny_Call_method m.base m.few m.line PySem.F.plainAttrs_dict PySem.F.slot_dict_update PySem.F.type_dict_update (thn (ho.run pins s σ H _ I h) fun uv s1 ⟨x, H1, I1, rx, a, exa, isd, q1⟩ => ?_)
  subst exa
  obtain rfl : uv = Value.ref a := rx
  obtain ⟨t1, t2, _⟩ := isD_at I1 isd
  refine ⟨t1, t2, ?_⟩
  rw [m.trees]
  refine Calls.callWith_builtin rfl (Calls.evalArgs_plain (Calls.spliced_cons (thn (he.run pins s1 σ H1 _ I1 q1) fun bv s2 ⟨y, H2, I2, ry, b, kvs, more, ey, hab, h1, h2, hz, q2⟩ => Calls.spliced_nil ?_)))
  subst ey
  obtain rfl : bv = Value.ref b := ry
  exact upd_call I2 h1 h2 hab hz fun s3 I3 => ⟨.non, _, I3, rfl, q2⟩
/-- name.update(e) -/
def sUpd (i : Nat) (f : S → R Ent) : FO := fun s => if isDic s i = true then (f s).stm fun e s => match e, s.ρ[i]? with
    | .dic more, some (some (.dic es)) => if es.length + more.length ≤ sizeLine then .nx (s.put i (.dic (mergeKD es more))) else .bad
    | _, _ => .bad
  else .bad
theorem kUpd (i : Nat) {X : Cx} {ex : ExT} {W : WX} {x : Str} {e : Expr} {f : S → R Ent} {p apos pos pos2 : Pos} (he : PE X e (tN X.K ex W f)) (hN : X.N[i]? = some x := by rfl) (hv : Vis X.env.scope x := by first | exact Or.inl rfl | exact Or.inr (Or.inl rfl) | exact Or.inr (Or.inr rfl))
    (hd : (x == ("__debug__" : Str)) = false := by decide) (hcd : (x == ("__classdict__" : Str)) = false := by decide) (m : M1 X (.Name x p) "update" apos e pos := by exact ⟨rfl, rfl, rfl, rfl⟩)
    (hsw : swapsWith (.Call (.Attribute (.Name x p) "update" apos) [e] [] pos) none pos2.line X.env = pure false := by rfl) :
    PS X (.Expr (.Call (.Attribute (.Name x p) "update" apos) [e] [] pos) pos2) (tS X.K ex W (sUpd i f)) :=
  PS.imp (ps_expr (pe_upd (pe_var hN hv hd hcd) he m) hsw) fun En σ H ⟨c, G, s, r, h⟩ => by
    have h : PostO X.K ex W c G En (if isDic s i = true then (f s).stm fun e s => match e, s.ρ[i]? with
        | .dic more, some (some (.dic es)) => if es.length + more.length ≤ sizeLine then .nx (s.put i (.dic (mergeKD es more))) else .bad
        | _, _ => .bad
      else .bad) := h
    by_cases hdc : isDic s i = true
    · rw [if_pos hdc] at h
      obtain ⟨es0, hes0⟩ : ∃ es, s.ρ[i]? = some (some (.dic es)) := by
        unfold isDic at hdc
        split at hdc
        · rename_i es he'
          exact ⟨es, he'⟩
        · cases hdc
      obtain ⟨a, kvs0, q1, q2, q3⟩ := r.dicAt hes0
      refine ⟨_, q1, a, rfl, .inl ⟨kvs0, .inl q2⟩, soN r h fun en s1 G1 H1 v e1 r1 hv h1 => ?_⟩
      split at h1
      · rename_i more es hes
        obtain ⟨a', kvs, p1, p2, p3⟩ := r1.dicAt hes
        rw [q1] at p1
        cases p1
        obtain ⟨⟨b, ho, rfl, hG, h0, hw, hH, mk, rfl, hmk⟩, _, hne⟩ := hv
        have hab : a ≠ b := fun z => hne i ⟨_, hes, rfl⟩ (by rw [q1, z])
        by_cases hz : es.length + more.length ≤ sizeLine
        · rw [if_pos hz] at h1
          refine ⟨b, kvs, mk, rfl, hab, p2, hH, by rw [p3.len, hmk.len]; exact hz, ?_⟩
          exact h1 σ G1 _ (Same.refl _) (r1.setDic hes q1 (PrAll.merge hmk p3))
        · rw [if_neg hz] at h1
          exact h1.elim
      · exact h1.elim
    · rw [if_neg hdc] at h
      exact h.elim
end PD
/-! PD19: dict comprehensions; try .. except X as n: if n.f != y: return c. -/
namespace PD
open PySem PySem.Spec L2
open PyProof.Rows hiding St
variable [WI]
theorem R.bind_assoc {α β γ : Type} (r : R α) (f : α → S → R β) (g : β → S → R γ) : (r.bind f).bind g = r.bind fun a s => (f a s).bind g := by cases r <;> rfl
def dcmpD (vs : List Nat) (tg : FG) (ft : FT) (fk fv : FE) : List D → List (Key × D) → S → R (List (Key × D))
  | [], es, s => .ok es s
  | d :: ds, es, s => match tg d s with
    | none => .bad
    | some s1 => (ft s1).nox.bind fun b s2 => if b = true then (fk s2).nox.bind fun k s3 => (fv s3).nox.bind fun y s4 => (R.of (kD k) s4).bind fun k s4 => if es.length < sizeLine then dcmpD vs tg ft fk fv ds (putKD es k y) (kill vs s4) else .bad
      else dcmpD vs tg ft fk fv ds es (kill vs s2)
def fDComp (vs : List Nat) (fi : FA) (tg : FG) (ft : FT) (fk fv : FE) : S → R Ent := fun s => (fi s).bind fun ds s => (dcmpD vs tg ft fk fv ds [] (kill vs s)).bind fun es s => .ok (.dic es) s
theorem dc_it {J : It} {n : Nat} {Gd : Hp → Prop} {Y : Nat → Hp → V → Hp → Prop} (w : Walk J n Gd Y) {g : TG} {tt : TT} {tk tv : TE} {vs : List Nat} {σ : St} {H1 : Hp} {Dd : Addr} {Qd : Hp → Prop} (Pv : Nat → Hp → Prop) (h0 : Pv 0 (upd H1 Dd (.dK []))) (hG : ∀ i H, i ≤ n → Pv i H → Gd H)
    (hs : ∀ i x H H', i < n → Pv i H → Y i H x H' → g x (wipe σ vs) H' fun σ2 H2 => wipe σ2 vs = wipe σ vs ∧ tt σ2 H2 fun b H3 =>
      if b = true then tk σ2 H3 fun y H4 => tv σ2 H4 fun z H5 => ∃ kvs k, y = kV k ∧ H5 Dd = some (.dK kvs) ∧ kvs.length < sizeLine ∧ Pv (i + 1) (upd H5 Dd (.dK (putK kvs k z))) else Pv (i + 1) H3) (hd : ∀ H, Pv n H → Qd H) :
    ∃ W' : Nat → Nat → Hp → Prop, (∃ m, W' 0 m (upd H1 Dd (.dK []))) ∧ ∀ i m H, W' i m H →
      (J.stop i H ∧ Qd H) ∨ (J.go i H ∧ ∃ Nx : Hp → Prop, (∀ H', Nx H' → ∃ m', m' < m ∧ W' (i + 1) m' H') ∧ ∀ x H', J.yld i H x H' → g x (wipe σ vs) H' fun σ2 H2 => wipe σ2 vs = wipe σ vs ∧ tt σ2 H2 fun b H3 =>
        if b = true then tk σ2 H3 fun y H4 => tv σ2 H4 fun z H5 => ∃ kvs k, y = kV k ∧ H5 Dd = some (.dK kvs) ∧ kvs.length < sizeLine ∧ Nx (upd H5 Dd (.dK (putK kvs k z))) else Nx H3) := by
  refine ⟨fun i m H => m = n - i ∧ i ≤ n ∧ Pv i H, ⟨n, Nat.sub_zero n |>.symm, Nat.zero_le n, h0⟩, ?_⟩
  rintro j m H ⟨rfl, hj, p⟩
  have q := hG j H hj p
  rcases Nat.lt_or_ge j n with hlt | hge
  · exact .inr ⟨w.goes j H hlt q, Pv (j + 1), fun H' p' => ⟨n - (j + 1), Nat.sub_succ_lt_self n j hlt, rfl, hlt, p'⟩, fun x H' y => hs j x H H' hlt p (w.yields j H x H' hlt q y)⟩
  · obtain rfl : j = n := Nat.le_antisymm hj hge
    exact .inl ⟨w.stops H q, hd H p⟩
section
variable {K : PySem.W.Frag} {ex : ExT} {W : WX}
theorem dcmpD_drop {vs : List Nat} {tg : FG} {ft : FT} {fk fv : FE} {ds : List D} {i : Nat} {es : List (Key × D)} {d : D} (h : ds[i]? = some d) (s : S) : dcmpD vs tg ft fk fv (ds.drop i) es s = dcmpD vs tg ft fk fv (d :: ds.drop (i + 1)) es s := by
  obtain ⟨hi, e⟩ := List.getElem?_eq_some_iff.mp h
  rw [List.drop_eq_getElem_cons hi, e]
theorem dc_read {c : Act} {G H1 : Hp} {σ : St} {s : S} {J : It} {ds : List D} {l vs : List Nat} {tg : FG} {ft : FT} {fk fv : FE} {Dd : Addr} {Q : V → Hp → Prop} (hl : ∀ i ∈ l, i ∈ vs) (wk : WkD K G J ds) (r : Rel K c G H1 σ s) (hD : H1 Dd = none)
    (h : Post K ex W c G σ (fun e G' H' s' => ∀ v, FreshE K c G' H' σ s' v e → Q v H') ((dcmpD vs tg ft fk fv ds [] (kill vs s)).bind fun es s => .ok (.dic es) s)) :
    ∃ W' : Nat → Nat → Hp → Prop, (∃ m, W' 0 m (upd H1 Dd (.dK []))) ∧ ∀ i m H, W' i m H →
      (J.stop i H ∧ Q (.ref Dd) H) ∨ (J.go i H ∧ ∃ Nx : Hp → Prop, (∀ H', Nx H' → ∃ m', m' < m ∧ W' (i + 1) m' H') ∧ ∀ x H', J.yld i H x H' → tG K l tg x (wipe σ vs) H' fun σ2 H2 => wipe σ2 vs = wipe σ vs ∧ tT K ex W0 ft σ2 H2 fun b H3 =>
        if b = true then tE K ex W0 fk σ2 H3 fun y H4 => tE K ex W0 fv σ2 H4 fun z H5 => ∃ kvs k, y = kV k ∧ H5 Dd = some (.dK kvs) ∧ kvs.length < sizeLine ∧ Nx (upd H5 Dd (.dK (putK kvs k z))) else Nx H3) := by
  have g0 : c.G0 Dd = none := (r.b.free hD).2.2.2
  have h0 : c.H0 Dd = none := (r.b.free hD).2.2.1
  have hwa : Dd ≠ c.wa := (r.b.free hD).2.1
  have kk : ∀ (s : S) j e, (kill vs s).ρ[j]? = some (some e) → j ∉ vs := fun s j e q => (kill_get vs q).2
  refine dc_it wk (Qd := fun H => Q (.ref Dd) H) (fun i H => ∃ G' s' acc es, Same G G' ∧ (∀ j e, s'.ρ[j]? = some (some e) → j ∉ vs) ∧ Rel K c G' H σ s' ∧ Beside c G' H σ s' Dd (.dK acc) ∧ PrAll K G' acc es ∧
    Post K ex W c G' σ (fun e G' H' s' => ∀ v, FreshE K c G' H' σ s' v e → Q v H') ((dcmpD vs tg ft fk fv (ds.drop i) es s').bind fun es s => .ok (.dic es) s)) ?_ (fun i H hi ⟨G', s', acc, es, e, _, r', _⟩ => ⟨G', e, r'.b.sub⟩) (fun i x H H' hi pv y => ?_) (fun H pv => ?_)
  · obtain ⟨r1, q1, q2, q3, q4⟩ := (r.kill vs).newOb (ho := .dK []) hD
    exact ⟨G, kill vs s, [], [], Same.refl _, kk s, r1, ⟨upd_same, q1, q2, q3, q4, rfl⟩, .nil, h⟩
  · obtain ⟨G', s', acc, es, e, kl, r', b', hacc, h'⟩ := pv
    have rp := (r'.prot b').toWipe kl (wipe_length σ vs) fun j hj => wipe_out hj
    obtain ⟨G2, d, e2, r2, hd, hx⟩ := y _ _ _ _ e rp
    rw [dcmpD_drop hd] at h'
    unfold dcmpD at h'
    cases z : tg d s' with
    | none =>
      simp only [z] at h'
      exact h'.elim
    | some s1 =>
      simp only [z, R.bind_assoc] at h'
      refine ⟨c.prot Dd (.dK acc), G2, s', d, s1, r2, hx, z, fun σ3 k3 r3 => ?_⟩
      have w3 : ∀ (j : Nat), j ∉ vs → σ3[j]? = (wipe σ vs)[j]? := fun j hj => k3.2 j fun q => hj (hl j q)
      refine ⟨(wipe_eq k3.1 w3).trans (wipe_eq (wipe_length σ vs) fun j hj => wipe_out hj), ?_⟩
      have σ3o : ∀ (j : Nat), j ∉ vs → σ[j]? = σ3[j]? := fun j hj => ((w3 j hj).trans (wipe_out hj)).symm
      have σ3l : σ.length = σ3.length := by rw [k3.1, wipe_length]
      refine ⟨c.prot Dd (.dK acc), G2, s1, r3, Post.seqN (Post.up h' e2) fun b s2 G3 H3 e3 r4 h4 => ?_⟩
      cases b with
      | false =>
        simp only [Bool.false_eq_true, if_false] at h4 ⊢
        obtain ⟨r5, b5⟩ := Rel.unprot rfl h0 g0 hwa (((r4.kill vs).toWipe (kk s2) σ3l σ3o))
        exact ⟨G3, kill vs s2, acc, es, (e.trans e2).trans e3, kk s2, r5, b5, (hacc.up e2).up e3, h4⟩
      | true =>
        simp only [if_true, R.bind_assoc] at h4 ⊢
        refine ⟨c.prot Dd (.dK acc), G3, s2, r4, Post.seqN h4 fun kd s3 G4 H4 e4 r5 h5 u hu => ?_⟩
        refine ⟨c.prot Dd (.dK acc), G4, s3, r5, Post.seqN h5 fun yd s4 G5 H5 e5 r6 h6 v hv => ?_⟩
        cases kz : kD kd with
        | none => rw [kz] at h6; exact h6.elim
        | some k =>
          rw [kz] at h6
          have ek := kV_of hu kz
          by_cases hn : es.length < sizeLine
          · have h6 : Post K ex W c G5 σ (fun e G' H' s' => ∀ v, FreshE K c G' H' σ s' v e → Q v H') ((if es.length < sizeLine then dcmpD vs tg ft fk fv (ds.drop (i + 1)) (putKD es k yd) (kill vs s4) else .bad).bind fun es s => .ok (Ent.dic es) s) := h6
            rw [if_pos hn] at h6
            obtain ⟨r7, b7⟩ := Rel.unprot rfl h0 g0 hwa (((r6.kill vs).toWipe (kk s4) σ3l σ3o))
            obtain ⟨r8, b8⟩ := r7.setBeside b7 (.dK (putK acc k v))
            exact ⟨acc, k, ek, b7.at_, by rw [hacc.len]; exact hn, G5, kill vs s4, putK acc k v, putKD es k yd, (((e.trans e2).trans e3).trans e4).trans e5, kk s4, r8, b8, ((((hacc.up e2).up e3).up e4).up e5).putK hv, h6⟩
          · have h6 : Post K ex W c G5 σ (fun e G' H' s' => ∀ v, FreshE K c G' H' σ s' v e → Q v H') ((if es.length < sizeLine then dcmpD vs tg ft fk fv (ds.drop (i + 1)) (putKD es k yd) (kill vs s4) else .bad).bind fun es s => .ok (Ent.dic es) s) := h6
            rw [if_neg hn] at h6
            exact h6.elim
  · obtain ⟨G', s', acc, es, e, kl, r', b', hacc, h'⟩ := pv
    rw [List.drop_length] at h'
    exact h'.val' r' _ ⟨⟨Dd, _, rfl, b'.g, b'.h0, b'.wa, b'.at_, acc, rfl, hacc⟩, rfl, b'.ne⟩
end
section
variable {X : Cx} {ex : ExT} {W : WX}
theorem nDComp {kx vx tg iter : Expr} {ifs : List Expr} {scope : Scope} {own : List (Str × Nat)} {pos : Pos} {l : List Nat} {fi : FA} {fg : FG} {ft : FT} {fk fv : FE} (hc : X.calm = true) (hN : X.N.Nodup) (hi : PI X tg iter (tI X.K ex W fi)) (ok : BlkOk X.N X.env.scope scope own)
    (hg : ∀ (s : Shared) (H : Hp) (C : Addr) (cl : List (Str × Addr)) (fp : List Addr), PG (X.blk s H scope (compEnvC scope cl C X.env) fp) tg (tG X.K l fg)) (ht : ∀ (s : Shared) (H : Hp) (C : Addr) (cl : List (Str × Addr)) (fp : List Addr), PTs (X.blk s H scope (compEnvC scope cl C X.env) fp) ifs (tT X.K ex W0 ft))
    (hk : ∀ (s : Shared) (H : Hp) (C : Addr) (cl : List (Str × Addr)) (fp : List Addr), PE (X.blk s H scope (compEnvC scope cl C X.env) fp) kx (tE X.K ex W0 fk))
    (he : ∀ (s : Shared) (H : Hp) (C : Addr) (cl : List (Str × Addr)) (fp : List Addr), PE (X.blk s H scope (compEnvC scope cl C X.env) fp) vx (tE X.K ex W0 fv)) (hl : ∀ i ∈ l, i ∈ own.map (·.2) := by decide) (hs : ∀ x, foldedSetIterable iter X.env x = pure x := by intro _; rfl) :
    PE X (.DictComp kx vx [⟨tg, iter, ifs, 0⟩] scope pos) (tN X.K ex W (fDComp (own.map (·.2)) fi fg ft fk fv)) :=
  PE.imp (pe_dc hc hN hi ok hg ht hk he hs) fun σ H Q ⟨c, G, s, r, h⟩ =>
    ⟨c, G, s, r, Post.seq h fun ds s1 G1 H1 e1 r1 h1 J wk Dd hD => dc_read hl wk r1 hD h1⟩
end
/-! ### try .. except X as n: if e != y: return b -/
def sTryC (k i y : Nat) (fb : FO) (g : List D → D) (b : Bool) : FO := fun s => match fb s with
  | .exc k' as s' => if k' = k ∧ i < s'.ρ.length ∧ i ≠ y then (match s'.ρ[y]? with
      | some (some (.val d)) => (match dNe (g as) d with
        | some (.bool true) => .rt (.bool b) (s'.drop i)
        | some (.bool false) => .nx (s'.drop i)
        | _ => .bad)
      | _ => .bad) else .bad
  | o => o
section
variable {X : Cx} {ex : ExT} {Wout : WX} {x n yn : Str} {C fI : Addr} {fs : List Str} {k i y kr : Nat} {body : List Stmt} {e : Expr} {fb : FO} {g : List D → D} {te : Addr → Value → Option Addr → TE} {np rp yp cp ip bp pos pos' : Pos} {b : Bool} {bj}
theorem drop_drop (s : S) (i : Nat) : (s.drop i).drop i = s.drop i := by
  unfold S.drop
  simp
theorem kTryC (hr : Room kr X.A) (hs : X.stack = X.env :: X.outer) (hf : X.env.frame = some X.env.locals) (hN : X.N.Nodup) (hi : X.N[i]? = some n) (hln : X.env.kindOf n = some .local) (T : XCls X.K X.mg x C fI fs) (hex : ex k = some (C, fs)) (tk : Takes X Wout)
    (hb : ∀ (W : WX) (pn : List (Addr × Obj)) (xe : Value → Shared → Prop), Takes (X.tr pn xe) W → PSs (X.tr pn xe) body (tS X.K ex W fb))
    (hsu : ∀ (a : Addr) (oe : Obj) (cls : Value) (d : Option Addr) (pn : List (Addr × Obj)), Zc cls d oe → (∃ vs, oe.data = .fields vs) → PE (X.suite a ((a, oe) :: pn)) e (te a cls d))
    (hv : HV X.K ex k i te g) (hy : X.N[y]? = some yn := by rfl) (hvy : Vis X.env.scope yn := by first | exact Or.inl rfl | exact Or.inr (Or.inl rfl) | exact Or.inr (Or.inr rfl)) (hg : Gl X x := by rfl) (hdb : (x == ("__debug__" : Str)) = false := by decide)
    (hd : (yn == ("__debug__" : Str)) = false := by decide) (hcd : (yn == ("__classdict__" : Str)) = false := by decide) :
    PS X (.Try body [.ExceptHandler (some (.Name x np)) (some n) [.If (.Compare e [.NotEq] [.Name yn yp] cp) [.Return (some (.Constant (.bool b) bj bp)) rp] [] ip] pos'] [] [] pos) (tS X.K ex Wout (sTryC k i y fb g b)) := by
  refine PS.imp (ps_try_as (tb := fun W => tS X.K ex W fb) (ts := fun a cls d => tIfS (tTest (tOp (rNeD X.K) (te a cls d) (tVar y))) (tRet (tC (.bl b))) tNext) (Wout := Wout) hs hf hN hi hln ⟨hg, hdb, .inl T.gC⟩ tk (fun W pn xe tk' _ => hb W pn xe tk') (fun a oe cls d pn hz hf' =>
    pss_one (ps_if (pt_cmpR (op_neD hr.units) (hsu a oe cls d pn hz hf') (pe_var hy hvy hd hcd) (nomark _)) (pss_one (ps_ret pe_bl)) pss_nil))) fun En σ H ⟨c, G, s, r, h⟩ => ?_
  refine ⟨c, G, s, r, ?_⟩
  unfold sTryC at h
  cases hfb : fb s with
  | nx s' => rw [hfb] at h; exact h
  | rt d s' => rw [hfb] at h; exact h
  | bk s' => rw [hfb] at h; exact h
  | ct s' => rw [hfb] at h; exact h
  | bad => rw [hfb] at h; exact h.elim
  | exc k' as s' =>
    rw [hfb] at h
    dsimp only at h
    split at h
    case isFalse => exact h.elim
    case isTrue hk =>
      obtain ⟨rfl, hl, hiy⟩ := hk
      intro cls dx σ' G' H' eG r' E
      have hcls : cls = .ref C := by
        obtain ⟨C', names, d, fl, vs, e1, e2, e3, e4, e5, e6⟩ := E
        rw [hex] at e1
        cases e1
        exact e2
      subst hcls
      refine ⟨true, T.te, fun _ a ha => ?_, fun q => nomatch q⟩
      have r2 := r'.over i (some (.ref a))
      have hl' : i < σ'.length := by rw [← r'.len]; exact hl
      refine hv r2 (by rw [List.length_set]; exact hl') (List.getElem?_set_self hl') E fun v G2 H2 e2 r3 _ hd => ?_
      split at h
      · rename_i d0 hd0
        have hd1 : (s'.drop i).ρ[y]? = some (some (.val d0)) := by
          show (s'.ρ.set i none)[y]? = _
          rw [List.getElem?_set_ne hiy]
          exact hd0
        obtain ⟨u, hu, hud⟩ := r3.slot y _ hd1
        have hud : Dp X.K G2 u d0 := hud
        refine ⟨u, hu, ?_⟩
        have fin : ∀ kb, dNe (g as) d0 = some (.bool kb) → (∃ z, V.bl kb = .bl z ∧ (if z = true then En.rt (.bl b) H2 else En.nx (((σ'.set i (some (.ref a))).set i none)) H2)) → rNeD X.K v u H2 fun x' H' => ∃ z, x' = .bl z ∧ (if z = true then En.rt (.bl b) H' else En.nx ((σ'.set i (some (.ref a))).set i none) H') := fun kb hkb hq => by
          unfold dNe at hkb
          split at hkb
          · rename_i hsh
            have hkb := Option.some.inj hkb
            refine ⟨g as, d0, (hd.up r3.b.sub).kit hsh.1, (hud.up r3.b.sub).kit hsh.2, hsh.1, hsh.2, ?_⟩
            injection hkb with hkb
            rw [hkb]
            exact hq
          · cases hkb
        split at h
        · rename_i hne
          exact fin true hne ⟨true, rfl, h _ _ G2 H2 (eG.trans e2) r3 (.bl b)⟩
        · rename_i hne
          refine fin false hne ⟨false, rfl, ?_⟩
          have r4 := r3.over i none
          rw [drop_drop] at r4
          exact h _ G2 H2 (eG.trans e2) r4
        · exact h.elim
      · exact h.elim
end
end PD
/-! PDset0: sorted(set(xs)) of a list of ints. -/
namespace PD
open PySem PySem.Spec L2
open PyProof.Rows hiding St
variable [WI]
section
variable {P : Program} {w : World} {A : Around} {E : Value → Shared → Prop} {s : Shared}
abbrev emptySet (w : World) : Obj := { cls := .type "set", dict := none, data := .set #[] 0 (.fresh 0 0 (!w.params.followText "set-order")) }
set_option maxRecDepth 100000 in
set_option maxHeartbeats 3200000 in
/-- set(xs), xs a list of ints -/
theorem set_of_ints {l : Addr} {items : Array Value} (ns : List Int) {Q : Value → Shared → Prop} (h0 : A.handled = none)
    (iL : s.heap.IsList l items) (iN : IntsAre items.toList ns) (room : ns.length + 1 < scanBound)
    (fin : ∀ (h' : Heap) (tk c : Nat), SetR w h' s.heap.objs.size (fun j => decide (j ∈ ns)) c → c ≤ ns.length →
      (∀ b o, s.heap.get? b = some o → h'.get? b = some o) → Q (.ref s.heap.objs.size) { s with heap := h', toks := tk }) :
    wpAny (model P w) A (call (.type "set") [.ref l]) Q E s := by
  have sz : items.size = ns.length := by
    have q := IntsAre.length iN
    simpa using q
  obtain ⟨cc, tl, mro⟩ := F.called_set.mro
  have m1 := F.called_set.made
  have m2 := F.called_set.sub
  refine wpAny_call (codeAny_of_tree (show wpAny _ _ (callAny (.type "set") _) _ _ _ from ?_))
  refine wpAny_pure ⟨Code.quiet_builtin _ (by decide +kernel),
    codeAny_builtin F.entry_type_call ?_⟩
  rw [Around.under_plain (weight_type_call_type "set" [.ref l] []) rfl]
  have t1 := F.called_set.notType
  have t2 := F.called_set.canCreate
  have t3 := F.typeCall_set_1 (.ref l)
  repeat (any_goals
    (first | assumption | wp_step))
  refine codeAny_mono (code_set_led1 (.ref l) (E := E)
    (Q₁ := fun obj s₁ => obj = .ref s.heap.objs.size ∧ s₁ = { s with heap := s.heap.push (emptySet w) }) ⟨rfl, rfl⟩) fun r s₁ hr => ?_
  cases r with
  | error e => exact hr
  | ok fl =>
    cases fl with
    | ret obj =>
      obtain ⟨rfl, rfl⟩ := hr
      have gS : (s.heap.push (emptySet w)).get? s.heap.objs.size = some (emptySet w) := Heap.get?_push_size _ rfl
      have gT : Shared.TypeIs { s with heap := s.heap.push (emptySet w) } (.ref s.heap.objs.size) "set" := ⟨_, gS, rfl⟩
      have i1 := F.called_set.init.lookup
      have i2 := F.called_set.init.bind (.ref s.heap.objs.size)
      repeat (any_goals
        (first | assumption | wp_step))
      refine codeAny_mono (codeAny_call_builtin
        (R := wants (fun r s₂ => r = .none ∧ ∃ h' tk c, s₂ = { s with heap := h', toks := tk } ∧
          SetR w h' s.heap.objs.size (fun j => decide (j ∈ ns)) c ∧ c ≤ ns.length ∧ (∀ b o, s.heap.get? b = some o → h'.get? b = some o)) E)
        F.called_set.init.plain F.entry_set_init (check_set_init_1 gT ?_)) fun r₂ s₂ hr₂ => ?_
      · obtain ⟨⟨cls, dd, dat, slo⟩, gl, cl, nl, dl⟩ := iL
        simp only at cl dl
        subst cl
        subst dl
        have gl' : (s.heap.push (emptySet w)).get? l = some { cls := .type "list", dict := dd, data := .seq items nl, slots := slo } :=
          Heap.get?_push_of_some _ gl
        have u1 := F.sub_list_set
        have u2 := F.sub_list_frozenset
        have u3 : (Value.type "list" == Value.type "dict") = false := by decide
        have gL : (s.heap.push (emptySet w)).IsList l items := ⟨_, gl', rfl, nl, rfl⟩
        unfold Builtin.«set.__init__» noKeywords
        unfold Builtin.Frozenset.updateFrom
        generalize hPI : pyIter = PI
        wp_walk
        subst hPI
        refine wpAny_pyIter_list gL (wpAny_bind (wpAny_runValue ?_))
        have lt : l < s.heap.objs.size := Heap.lt_size gl
        have h3 : A.in1.in1.in1.handled = none := by simp [h0]
        have sp : (s.heap.push (emptySet w)).objs.size = s.heap.objs.size + 1 := Heap.size_push ..
        have nI : l ≠ (s.heap.push (emptySet w)).objs.size := by
          rw [sp]
          exact Nat.ne_of_lt (Nat.lt_succ_of_lt lt)
        have nS : s.heap.objs.size ∉ [(s.heap.push (emptySet w)).objs.size, l] := by
          rw [sp]
          simp only [List.mem_cons, List.not_mem_nil, or_false, not_or]
          exact ⟨Nat.ne_of_lt (Nat.lt_succ_self _), Nat.ne_of_gt lt⟩
        have vals : ∀ (i : Nat) (v : Value), items[i]? = some v → ∃ k t, ns[i]? = some k ∧ v = .int k t := fun i v hv => by
          have hi : i < ns.length := by
            rw [← sz]
            exact (Array.getElem?_eq_some_iff.mp hv).1
          obtain ⟨t, e⟩ := IntsAre.int_at iN i v (by rw [Array.getElem?_toList]; exact hv)
          refine ⟨ns[i], t, List.getElem?_eq_getElem hi, ?_⟩
          rw [e, List.getD_eq_getElem?_getD, List.getElem?_eq_getElem hi]
          rfl
        refine set_update_ints ((Walks.list h3 _ l nI items).toS) s.heap.objs.size nS ns sz room vals (items.size - 0) 0 _
          (by omega) (Nat.zero_le _) ⟨⟨_, Heap.get?_push_size _ rfl, rfl, rfl⟩, (gL.push _)⟩ ?start ?stop
        case start =>
          exact ⟨0, Nat.le_refl 0, setR_new_at (Heap.get?_push_of_some _ gS)⟩
        case stop =>
          intro s' c' mv hc' hS'
          obtain ⟨h', g2, d', tk', os'⟩ := s'
          obtain rfl : g2 = s.gens := mv.gens
          obtain rfl : d' = s.drawn := mv.drawn
          obtain rfl : os' = s.os := mv.os
          show wpAny _ _ _ _ _ _
          refine wpAny_pure (show wpAny _ _ (ret Value.none) _ _ _ from ?_)
          rw [sz] at hc'
          refine wpAny_pure ⟨rfl, h', tk', c', rfl, hS', hc', fun b o e => ?_⟩
          have b0 : b < s.heap.objs.size := Heap.lt_size e
          refine mv.heap b o ?_ (Heap.get?_push_of_some _ (Heap.get?_push_of_some _ e))
          rw [sp]
          simp only [List.mem_cons, List.not_mem_nil, or_false, not_or]
          exact ⟨Nat.ne_of_lt b0, Nat.ne_of_lt (Nat.lt_succ_of_lt b0)⟩
      · cases r₂ with
        | error e => exact hr₂
        | ok fl₂ =>
          cases fl₂ with
          | ret r =>
            obtain ⟨rfl, h', tk, c', rfl, hS', hc', hk'⟩ := hr₂
            repeat (any_goals
              (first | assumption | wp_step))
            exact fin _ _ _ hS' hc' hk'
          | _ => exact hr₂.elim
    | _ => exact hr.elim
end
end PD
/-! PDset: sorted(set(xs)) of a list of ints. -/
namespace PD
open PySem PySem.Spec L2
open PyProof.Rows hiding St
variable [WI]
section
variable {X : Cx} {ex : ExT} {W : WX}
/-- the one ascending list of these members -/
def uniqI : List Int → List Int
  | [] => []
  | x :: xs => match uniqI xs with
    | [] => [x]
    | y :: ys => if x = y then y :: ys else x :: y :: ys
theorem uniqI_mem : ∀ (l : List Int) (k : Int), k ∈ uniqI l ↔ k ∈ l
  | [], k => by simp [uniqI]
  | x :: xs, k => by
    have ih := uniqI_mem xs k
    unfold uniqI
    cases e : uniqI xs with
    | nil =>
      rw [e] at ih
      simp only [List.mem_cons, List.not_mem_nil, or_false] at ih ⊢
      constructor
      · exact .inl
      · rintro (h | h)
        · exact h
        · exact (ih.mpr h).elim
    | cons y ys =>
      rw [e] at ih
      simp only
      split
      · rename_i h
        rw [ih, List.mem_cons]
        constructor
        · exact .inr
        · rintro (h' | h')
          · exact ih.mp (by rw [h', h]; simp)
          · exact h'
      · rw [List.mem_cons, ih, List.mem_cons]
theorem uniqI_sorted : ∀ {l : List Int}, l.Pairwise (· ≤ ·) → (uniqI l).Pairwise (· < ·)
  | [], _ => .nil
  | x :: xs, h => by
    have h' := List.pairwise_cons.mp h
    have ih := uniqI_sorted h'.2
    have hm := uniqI_mem xs
    unfold uniqI
    cases e : uniqI xs with
    | nil => simp
    | cons y ys =>
      rw [e] at ih hm
      simp only
      split
      · exact ih
      · rename_i hxy
        refine List.pairwise_cons.mpr ⟨fun z hz => ?_, ih⟩
        have hy : x ≤ y := h'.1 y ((hm y).mp (by simp))
        rcases List.mem_cons.mp hz with rfl | hz'
        · omega
        · have := (List.pairwise_cons.mp ih).1 z hz'
          omega
theorem asc_unique : ∀ {xs ys : List Int}, (∀ k, k ∈ xs ↔ k ∈ ys) → xs.Pairwise (· < ·) → ys.Pairwise (· < ·) → xs = ys
  | [], [], _, _, _ => rfl
  | [], y :: ys, h, _, _ => absurd ((h y).mpr (by simp)) (by simp)
  | x :: xs, [], h, _, _ => absurd ((h x).mp (by simp)) (by simp)
  | x :: xs, y :: ys, h, h1, h2 => by
    have a := List.pairwise_cons.mp h1
    have b := List.pairwise_cons.mp h2
    have e : x = y := by
      rcases List.mem_cons.mp ((h x).mp (by simp)) with e | m1
      · exact e
      · rcases List.mem_cons.mp ((h y).mpr (by simp)) with e | m2
        · exact e.symm
        · have := a.1 y m2
          have := b.1 x m1
          omega
    subst e
    rw [asc_unique (fun k => ?_) a.2 b.2]
    have hk := h k
    simp only [List.mem_cons] at hk
    constructor
    · intro m
      have := a.1 k m
      rcases hk.mp (.inr m) with e | m'
      · omega
      · exact m'
    · intro m
      have := b.1 k m
      rcases hk.mpr (.inr m) with e | m'
      · omega
      · exact m'
/-- sorted(set(xs)) of ints -/
def sortSet (ns : List Int) : List Int := uniqI (sortI ns)
theorem sortSet_mem (ns : List Int) (k : Int) : k ∈ sortSet ns ↔ k ∈ ns := (uniqI_mem _ k).trans (sortI_perm ns).mem_iff
theorem sortSet_sorted (ns : List Int) : (sortSet ns).Pairwise (· < ·) := uniqI_sorted (sortI_sorted ns)
def fSortSet (f : FE) : FA := fun s => (f s).bind fun d s => match d with
  | .list ds => R.of ((intsD ds).bind fun ns => if ns.length < 64 then some ((sortSet ns).map PyData.int) else none) s
  | _ => .bad
theorem oSortSet {e : Expr} {f : FE} {p q pos pos2 : Pos} (hc : X.calm = true) (hm : X.mg "sorted" = none) (hm2 : X.mg "set" = none) (he : PE X e (tE X.K ex W f)) (hg : Gl X "sorted" := by rfl) (hg2 : Gl X "set" := by rfl)
    (na : starEach [e] X.env = (false, eval e X.env) :: starEach [] X.env := by rfl) (na2 : starEach [.Call (.Name "set" q) [e] [] pos2] X.env = (false, eval (.Call (.Name "set" q) [e] [] pos2) X.env) :: starEach [] X.env := by rfl)
    (pl : (backTo pos2 (starEach [] X.env)).any (·.1) = false := by rfl) (pl2 : (backTo pos (starEach [] X.env)).any (·.1) = false := by rfl) :
    PE X (.Call (.Name "sorted" p) [.Call (.Name "set" q) [e] [] pos2] [] pos) (tO X.K ex W (fSortSet f)) := by
  have hset : PE X (.Call (.Name "set" q) [e] [] pos2) (fun σ H Q => tE X.K ex W f σ H fun x H1 => ∃ (l : Addr) (ns : List Int), x = .ref l ∧ SqL X.K H1 l (ns.map V.int) ∧ ns.length < 64 ∧ ∀ p c, H1 p = none → c ≤ ns.length → Q (.ref p) (upd H1 p (SetO X.w p (fun j => decide (j ∈ ns)) c))) := by
    refine ⟨fun pins s σ H Q I h => ?_⟩
    refine Call_ (ld_blt I hg2 hm2 PyProof.Rows.boot_set ?_)
    refine PyProof.Rows.callWith_type1 (PyProof.Rows.args_cons (thn (he.run pins s σ H _ I h) fun v s1 ⟨x, H1, I1, r1, q1⟩ => PyProof.Rows.args_nil ?_) na) na pl
    obtain ⟨l, ns, rfl, hq, h1, q1⟩ := q1
    cases r1
    obtain ⟨its, r, pl, hz⟩ := I1.list hq
    refine set_of_ints ns (I1.ok.hd hc) pl.isList (by simpa using r.ints) (by unfold scanBound; omega) fun h' tk cc hS hcc hk => ?_
    have hn : H1 s1.heap.objs.size = none := I1.hok.fresh (Nat.le_refl _)
    exact ⟨.ref s1.heap.objs.size, _, I1.laid (t' := tk) hk (Nat.le_refl _) (setO_new hS), rfl, q1 _ cc hn hcc⟩
  refine PE.imp (pe_callB (cr_sortedSet hc) hg hm (by decide +kernel) (pa_cons hset pa_nil na2) (he := na2) (hpl := pl2)) fun σ H Q ⟨c, G, s, r, h⟩ => inE r h fun d s1 G1 H1 v e1 r1 hv q1 => ?_
  cases d with
  | list ds =>
    cases z : intsD ds with
    | none =>
      simp only [z] at q1
      exact q1.elim
    | some ns =>
      simp only [z, Option.bind_some] at q1
      by_cases hl : ns.length < 64
      · rw [if_pos hl] at q1
        rw [intsD_eq z] at hv
        cases hv with
        | lst h1 h2 =>
          rw [h2.of_ints] at h1
          refine ⟨_, ns, rfl, r1.b.sub.seq h1, hl, fun p cc hp hcc => ⟨p, _, cc, rfl, upd_same, by omega, fun ns' l hs hmem hlen hl2 => ?_⟩⟩
          have e : ns' = sortSet ns := asc_unique (fun k => by rw [hmem k, sortSet_mem, decide_eq_true_eq]) hs (sortSet_sorted ns)
          subst e
          have r2 := r1.allocOwn (o := SetO X.w p (fun j => decide (j ∈ ns)) cc) hp
          obtain ⟨r3, hf⟩ := r2.newOwn hl2 (DpAll.ints (sortSet ns))
          exact q1.val' r3 _ hf
      · rw [if_neg hl] at q1
        exact q1.elim
  | _ => exact q1.elim
end
end PD
/-! plain laws about the readings: no program in sight -/
namespace PD
open PySem PySem.Spec L2
open PyProof.Rows hiding St
variable [WI]
section
variable {kl : List Nat} {tg : FG} {body : FO}
@[simp] theorem sSeq_s (f g : FO) (s : S) : sSeq f g s = (f s).seq g := rfl
@[simp] theorem sNil_s (s : S) : sNil s = .nx s := rfl
@[simp] theorem sRet_s (f : FE) (s : S) : sRet f s = (f s).stm fun d s => .rt d s := rfl
@[simp] theorem sIf_s (c : FT) (f g : FO) (s : S) : sIf c f g s = (c s).stm fun b s => if b = true then f s else g s := rfl
@[simp] theorem sAsg_gNm (f : FE) (i : Nat) (s : S) : sAsg f (gNm i) s = (f s).stm fun d s => .nx (s.put i (.val d)) := rfl
@[simp] theorem sDrp_s (f : FE) (s : S) : sDrp f s = (f s).stm fun _ s => .nx s := rfl
@[simp] theorem sFor_s (fi : FA) (s : S) : sFor kl fi tg body s = (fi s).stm fun ds s => forD kl tg body ds s := rfl
@[simp] theorem sSetO_s (i : Nat) (f : FA) (s : S) : sSetO i f s = (f s).stm fun ds s => .nx (s.put i (.own ds)) := rfl
@[simp] theorem sAug_s (i : Nat) (o : D → D → Option D) (f : FE) (s : S) : sAug i o f s = (rdSlot s i).stm fun d s => (f s).stm fun d' s => (R.of (o d d') s).stm fun z s => .nx (s.put i (.val z)) := rfl
@[simp] theorem fSlot_s (i : Nat) (s : S) : fSlot i s = rdSlot s i := rfl
@[simp] theorem fC_s (d : D) (s : S) : fC d s = .ok d s := rfl
@[simp] theorem fNil_s (s : S) : fNil s = .ok [] s := rfl
@[simp] theorem fCons_s (f : FE) (g : FA) (s : S) : fCons f g s = (f s).bind fun d s => (g s).bind fun ds s => .ok (d :: ds) s := rfl
@[simp] theorem fTup_s (f : FA) (s : S) : fTup f s = (f s).bind fun ds s => if ds.length ≤ sizeLine then .ok (.tuple ds) s else .bad := rfl
@[simp] theorem fLst_s (f : FA) (s : S) : fLst f s = (f s).bind fun ds s => if ds.length ≤ sizeLine then .ok (.list ds) s else .bad := rfl
@[simp] theorem fBin_s (o : D → D → Option D) (f g : FE) (s : S) : fBin o f g s = (f s).bind fun a s => (g s).bind fun b s => R.of (o a b) s := rfl
@[simp] theorem tVal_s (f : FE) (s : S) : tVal f s = (f s).bind toB := rfl
@[simp] theorem toB_bool (b : Bool) (s : S) : toB (.bool b) s = .ok b s := rfl
@[simp] theorem fAnd_s (f g : FT) (s : S) : fAnd f g s = (f s).bind fun b s => if b = true then g s else .ok false s := rfl
@[simp] theorem fOr_s (f g : FT) (s : S) : fOr f g s = (f s).bind fun b s => if b = true then .ok true s else g s := rfl
@[simp] theorem fNot_s (f : FT) (s : S) : fNot f s = (f s).bind fun b s => .ok (!b) s := rfl
@[simp] theorem fIf_s (c : FT) (f g : FE) (s : S) : fIf c f g s = (c s).bind fun b s => if b = true then f s else g s := rfl
def negD (d : D) : Option D := match d with
  | .int i => some (.int (-i))
  | _ => none
@[simp] theorem negD_i (i : Int) : negD (.int i) = some (.int (-i)) := rfl
@[simp] theorem fNeg_s (f : FE) (s : S) : fNeg f s = (f s).bind fun d s => R.of (negD d) s := by
  unfold fNeg negD
  congr 1; funext d s
  cases d <;> rfl
@[simp] theorem fIt_s (f : FE) (s : S) : fIt f s = (f s).bind fun d s => R.of (items d) s := rfl
@[simp] theorem items_list (ds : List D) : items (.list ds) = some ds := rfl
@[simp] theorem items_tuple (ds : List D) : items (.tuple ds) = some ds := rfl
def rL1 (ds : List D) : Option (List D) := match ds with
  | [d] => rng1 d
  | _ => none
def rL2 (ds : List D) : Option (List D) := match ds with
  | [d, e] => rng2 d e
  | _ => none
@[simp] theorem rL1_s (d : D) : rL1 [d] = rng1 d := rfl
@[simp] theorem rL2_s (d e : D) : rL2 [d, e] = rng2 d e := rfl
@[simp] theorem fR1_s (f : FA) (s : S) : fR1 f s = (f s).bind fun ds s => R.of (rL1 ds) s := by
  unfold fR1 rL1
  congr 1; funext ds s
  rcases ds with _ | ⟨a, _ | ⟨b, l⟩⟩ <;> rfl
@[simp] theorem fR2_s (f : FA) (s : S) : fR2 f s = (f s).bind fun ds s => R.of (rL2 ds) s := by
  unfold fR2 rL2
  congr 1; funext ds s
  rcases ds with _ | ⟨a, _ | ⟨b, _ | ⟨c, l⟩⟩⟩ <;> rfl
@[simp] theorem fFz_s (f : FA) (s : S) : fFz f s = (f s).bind fun ds s => .ok (.list ds) s := rfl
@[simp] theorem fLim_s (f : FA) (s : S) : fLim f s = (f s).bind fun ds s => if ds.length ≤ sizeLine then .ok ds s else .bad := rfl
@[simp] theorem fLen_s (f : FE) (s : S) : fLen f s = (f s).bind fun d s => R.of ((lenD d).map PyData.int) s := rfl
@[simp] theorem fB1_s (o : D → Option D) (f : FE) (s : S) : fB1 o f s = (f s).bind fun d s => R.of (o d) s := rfl
@[simp] theorem fIx_s (f g : FE) (s : S) : fIx f g s = (f s).bind fun a s => (g s).bind fun b s => R.of (dIx a b) s := rfl
@[simp] theorem fCall_s (n : Nat) (sem : Sem') (f : FA) (s : S) : fCall n sem f s = (f s).bind fun ds s => if ds.length = n then callR sem ds s else .bad := rfl
@[simp] theorem fYes_s (s : S) : fYes s = .ok true s := rfl
@[simp] theorem fComp_s (vs : List Nat) (fi : FA) (ft : FT) (fe : FE) (s : S) : fComp vs fi tg ft fe s = (fi s).bind fun ds s => cmpD vs tg ft fe ds 0 (kill vs s) := rfl
@[simp] theorem gNm_s (i : Nat) (d : D) (s : S) : gNm i d s = some (s.put i (.val d)) := rfl
@[simp] theorem put_mk (ρ : List (Option Ent)) (w : Wst) (i : Nat) (e : Ent) : S.put ⟨ρ, w⟩ i e = ⟨ρ.set i (some e), w⟩ := rfl
@[simp] theorem drop_mk (ρ : List (Option Ent)) (w : Wst) (i : Nat) : S.drop ⟨ρ, w⟩ i = ⟨ρ.set i none, w⟩ := rfl
@[simp] theorem kill_nil (s : S) : kill [] s = s := rfl
@[simp] theorem kill_cons (i : Nat) (l : List Nat) (s : S) : kill (i :: l) s = kill l (s.drop i) := rfl
def rdE (o : Option (Option Ent)) (s : S) (i : Nat) : R D :=
  match o with
  | some (some (.val d)) => .ok d s
  | some (some (.own ds)) => .ok (.list ds) (s.put i (.val (.list ds)))
  | some (some (.dic es)) => .ok (dicD es) (s.put i (.val (dicD es)))
  | _ => .bad
@[simp] theorem rdSlot_s (s : S) (i : Nat) : rdSlot s i = rdE s.ρ[i]? s i := rfl
@[simp] theorem rdE_dic (s : S) (i : Nat) (es : List (Key × D)) : rdE (some (some (.dic es))) s i = .ok (dicD es) (s.put i (.val (dicD es))) := rfl
@[simp] theorem rdE_val (s : S) (i : Nat) (d : D) : rdE (some (some (.val d))) s i = .ok d s := rfl
@[simp] theorem rdE_own (s : S) (i : Nat) (ds : List D) : rdE (some (some (.own ds))) s i = .ok (.list ds) (s.put i (.val (.list ds))) := rfl
def lkE (o : Option (Option Ent)) : Option D :=
  match o with
  | some (some (.val d)) => some d
  | some (some (.own ds)) => some (.list ds)
  | some (some (.dic es)) => some (dicD es)
  | _ => none
@[simp] theorem lkE_dic (es : List (Key × D)) : lkE (some (some (.dic es))) = some (dicD es) := rfl
@[simp] theorem look_s (s : S) (i : Nat) : look s i = lkE s.ρ[i]? := rfl
@[simp] theorem lkE_val (d : D) : lkE (some (some (.val d))) = some d := rfl
@[simp] theorem lkE_own (ds : List D) : lkE (some (some (.own ds))) = some (.list ds) := rfl
def thenR {α : Type} (o : Option D) (r : R α) : R α := match o with
  | none => .bad
  | some _ => r
def thenO (o : Option D) (r : O) : O := match o with
  | none => .bad
  | some _ => r
@[simp] theorem thenR_some {α : Type} (d : D) (r : R α) : thenR (some d) r = r := rfl
@[simp] theorem thenO_some (d : D) (r : O) : thenO (some d) r = r := rfl
@[simp] theorem fLenS_s (i : Nat) (s : S) : fLenS i s = R.of ((look s i).bind fun d => (lenD d).map PyData.int) s := rfl
@[simp] theorem lenD_list (ds : List D) : lenD (.list ds) = some (ds.length : Int) := rfl
@[simp] theorem lenD_tuple (ds : List D) : lenD (.tuple ds) = some (ds.length : Int) := rfl
@[simp] theorem dIx_list (ds : List D) (i : Int) : dIx (.list ds) (.int i) = atI ds i := rfl
@[simp] theorem dIx_tuple (ds : List D) (i : Int) : dIx (.tuple ds) (.int i) = atI ds i := rfl
@[simp] theorem fIxS_s {i : Nat} {g : FE} {s : S} : fIxS i g s = thenR (look s i) ((g s).bind fun b s => R.of ((look s i).bind fun a => dIx a b) s) := by
  unfold fIxS thenR
  cases look s i <;> rfl
@[simp] theorem fCmpS_s {o : D → D → Option D} {i : Nat} {g : FE} {s : S} : fCmpS o i g s = thenR (look s i) ((g s).bind fun b s => R.of ((look s i).bind fun a => o a b) s) := by
  unfold fCmpS thenR
  cases look s i <;> rfl
def appE (o : Option (Option Ent)) (i : Nat) (d : D) (s : S) : O := match o with
  | some (some (.own ds)) => if ds.length < sizeLine then .nx (s.put i (.own (ds ++ [d]))) else .bad
  | _ => .bad
def isL (o : Option D) (r : O) : O := match o with
  | some (.list _) => r
  | _ => .bad
@[simp] theorem isL_list (ds : List D) (r : O) : isL (some (.list ds)) r = r := rfl
@[simp] theorem sApp_s {i : Nat} {f : FE} {s : S} : sApp i f s = isL (look s i) ((f s).stm fun d s => appE s.ρ[i]? i d s) := by
  unfold sApp isL appE
  rfl
@[simp] theorem appE_own (i : Nat) (d : D) (s : S) (ds : List D) : appE (some (some (.own ds))) i d s = if ds.length < sizeLine then .nx (s.put i (.own (ds ++ [d]))) else .bad := rfl
def putO (o : Option Nat) (i : Nat) (ds : List D) (d : D) (s : S) : O := match o with
  | some n => .nx (s.put i (.own (ds.set n d)))
  | none => .bad
@[simp] theorem putO_some (n : Nat) (i : Nat) (ds : List D) (d : D) (s : S) : putO (some n) i ds d s = .nx (s.put i (.own (ds.set n d))) := rfl
def setE (o : Option (Option Ent)) (i : Nat) (d : D) (k : D) (s : S) : O := match o, k with
  | some (some (.own ds)), .int k => putO (ixN ds.length k) i ds d s
  | _, _ => .bad
@[simp] theorem setE_own (i : Nat) (d : D) (k : Int) (s : S) (ds : List D) : setE (some (some (.own ds))) i d (.int k) s = putO (ixN ds.length k) i ds d s := rfl
@[simp] theorem sSetIx_s {i : Nat} {f g : FE} {s : S} : sSetIx i f g s = (f s).stm fun d s => thenO (look s i) ((g s).stm fun j s => setE s.ρ[i]? i d j s) := by
  unfold sSetIx setE thenO putO
  cases f s <;> rfl
@[simp] theorem gTp_s (n : Nat) (h : FGs) (ds : List D) (s : S) : gTp n h (.tuple ds) s = if ds.length = n then h ds s else none := rfl
@[simp] theorem gCo_s (g : FG) (h : FGs) (d : D) (r : List D) (s : S) : gCo g h (d :: r) s = (g d s).bind (h r) := rfl
@[simp] theorem gNo_s (s : S) : gNo [] s = some s := rfl
def hdE {α : Type} (o : Option (Option Ent)) (r : R α) : R α := match o with
  | some (some .hdl) => r
  | _ => .bad
@[simp] theorem hdE_hdl {α : Type} (r : R α) : hdE (some (some .hdl)) r = r := rfl
@[simp] theorem fCallH_s {n i : Nat} {sem : Sem'} {f : FA} {s : S} : fCallH n i sem f s = hdE s.ρ[i]? ((f s).bind fun ds s => if ds.length = n then callR sem ds s else .bad) := rfl
@[simp] theorem fHd_s (i : Nat) (n : Int) (s : S) : fHd i n s = hdE s.ρ[i]? (R.of (hdAt n s.w) s) := rfl
def callE (r : FR) (s : S) : R D := match r with
  | .ret d w => .ok d ⟨s.ρ, w⟩
  | .exc k as w => .exc k as ⟨s.ρ, w⟩
  | .bad => .bad
@[simp] theorem callR_s (sem : Sem') (ds : List D) (s : S) : callR sem ds s = callE (sem ds s.w) s := rfl
@[simp] theorem callE_ret (d : D) (w : Wst) (s : S) : callE (.ret d w) s = .ok d ⟨s.ρ, w⟩ := rfl
@[simp] theorem callE_exc (k : Nat) (as : List D) (w : Wst) (s : S) : callE (.exc k as w) s = .exc k as ⟨s.ρ, w⟩ := rfl
@[simp] theorem dAddX_ii (i j : Int) : dAddX (.int i) (.int j) = some (.int (i + j)) := rfl
@[simp] theorem dAddI_ii (i j : Int) : dAddI (.int i) (.int j) = some (.int (i + j)) := rfl
@[simp] theorem dSub_ii (i j : Int) : dSub (.int i) (.int j) = some (.int (i - j)) := rfl
@[simp] theorem dLt_ii (i j : Int) : dLt (.int i) (.int j) = some (.bool (decide (i < j))) := rfl
@[simp] theorem dLe_ii (i j : Int) : dLe (.int i) (.int j) = some (.bool (decide (i ≤ j))) := rfl
@[simp] theorem dGt_ii (i j : Int) : dGt (.int i) (.int j) = some (.bool (decide (j < i))) := rfl
@[simp] theorem dGe_ii (i j : Int) : dGe (.int i) (.int j) = some (.bool (decide (j ≤ i))) := rfl
@[simp] theorem dEq_ii (i j : Int) : dEq (.int i) (.int j) = some (.bool (i == j)) := rfl
@[simp] theorem dNe_ii (i j : Int) : dNe (.int i) (.int j) = some (.bool (!(i == j))) := rfl
theorem dMod_ii {i j : Int} (h : 0 < j) : dMod (.int i) (.int j) = some (.int (i % j)) := by simp [dMod, dI, h]
theorem dMul_r {i j : Int} (h0 : -(2 ^ 64) < j) (h : j < 2 ^ 64) : dMul (.int i) (.int j) = some (.int (i * j)) := by simp only [dMul, dI]; rw [if_pos (.inl (.inr ⟨h0, h⟩))]; rfl
theorem dMul_l {i j : Int} (h0 : -(2 ^ 64) < i) (h : i < 2 ^ 64) : dMul (.int i) (.int j) = some (.int (i * j)) := by simp only [dMul, dI]; rw [if_pos (.inl (.inl ⟨h0, h⟩))]; rfl
theorem dDiv_ii {i j : Int} (h0 : 0 < j) (h : j < 2 ^ 8999) : dDiv (.int i) (.int j) = some (.int (i / j)) := by
  have z : CDivW i j := ⟨h0, PySem.Flt.log2_lt_of (by decide) (by
    have e : (j.natAbs : Int) = j := by omega
    have e2 : (j.natAbs : Int) < 2 ^ 8999 := by rw [e]; exact h
    have e3 : ((2 ^ 8999 : Nat) : Int) = (2 : Int) ^ 8999 := Int.natCast_pow 2 8999
    rw [← e3] at e2
    have := Int.ofNat_lt.mp e2
    exact Nat.lt_of_lt_of_le this (Nat.pow_le_pow_right (by decide) (by decide)))⟩
  simp only [dDiv, dI]; rw [if_pos z]; rfl
theorem dShr_ii {i j : Int} (h : 0 ≤ j) : dShr (.int i) (.int j) = some (.int (i / 2 ^ j.toNat)) := by simp [dShr, dI, h]
theorem rng1_i {j : Int} (h0 : -(2 ^ 62) ≤ j) (h : j < 2 ^ 62) : rng1 (.int j) = some (upTo 0 j.toNat) := by simp only [rng1]; rw [if_pos ⟨h0, h⟩]
theorem rng2_i {i j : Int} (a0 : -(2 ^ 62) ≤ i) (a : i < 2 ^ 62) (h0 : -(2 ^ 62) ≤ j) (h : j < 2 ^ 62) : rng2 (.int i) (.int j) = some (upTo i (j - i).toNat) := by simp only [rng2]; rw [if_pos ⟨a0, a, h0, h⟩]
@[simp] theorem intsD_nil : intsD [] = some [] := rfl
@[simp] theorem intsD_cons (i : Int) (l : List D) : intsD (.int i :: l) = (intsD l).map (i :: ·) := by cases h : intsD l <;> simp [intsD, intD, h]
theorem atI_nn {α : Type} {xs : List α} {i : Nat} (h : i < xs.length) : atI xs (i : Int) = some xs[i] := by
  unfold atI ixN
  simp [h]
def nD (n : Nat) : D := .int (n : Int)
theorem rng1_nat {n : Nat} (h : n < 2 ^ 62) : rng1 (.int (n : Int)) = some ((List.range n).map nD) := by
  rw [rng1_i (by omega) (by omega)]
  unfold PD.upTo nD
  simp
@[simp] theorem outF_rt (d : D) (s : S) : outF (.rt d s) = .ret d s.w := rfl
@[simp] theorem outF_nx (s : S) : outF (.nx s) = .ret .none s.w := rfl
@[simp] theorem outF_exc (k : Nat) (as : List D) (s : S) : outF (.exc k as s) = .exc k as s.w := rfl
def lr2D (a b : D) : Option (List D) := match a, b with
  | .int i, .int j => if -(2 ^ 62) ≤ i ∧ i < 2 ^ 62 ∧ -(2 ^ 62) ≤ j ∧ j < 2 ^ 62 ∧ (j - i).toNat ≤ 2 ^ 24 then some (upTo i (j - i).toNat) else none
  | _, _ => none
@[simp] theorem fLR2_s (f g : FE) (s : S) : fLR2 f g s = (f s).bind fun a s => (g s).bind fun b s => R.of (lr2D a b) s := by
  unfold fLR2 lr2D
  congr 1; funext a s; congr 1; funext b s
  cases a <;> try rfl
  cases b <;> try rfl
  dsimp only
  split <;> rfl
theorem lr2D_nat {a b : Nat} (h0 : a ≤ 2 ^ 24) (h : b ≤ 2 ^ 24) : lr2D (.int (a : Int)) (.int (b : Int)) = some (((List.range (b - a)).map (a + ·)).map nD) := by
  unfold lr2D
  dsimp only
  by_cases hab : a ≤ b
  · rw [if_pos (by omega), show ((b : Int) - (a : Int)).toNat = b - a by omega]
    unfold PD.upTo nD
    rw [List.map_map]
    congr 1
  · rw [if_pos (by omega), show ((b : Int) - (a : Int)).toNat = 0 by omega, show b - a = 0 by omega]
    rfl
def setSD (d : D) : Option (List D) := match d with
  | .list ds => (intsD ds).bind fun ns => if ns.length < 64 then some ((sortSet ns).map PyData.int) else none
  | _ => none
@[simp] theorem fSortSet_s (f : FE) (s : S) : fSortSet f s = (f s).bind fun d s => R.of (setSD d) s := by
  unfold fSortSet setSD
  congr 1; funext d s
  cases d <;> rfl
theorem setSD_ints {l : List Int} (h : l.length < 64) : setSD (.list (l.map PyData.int)) = some ((sortSet l).map PyData.int) := by
  unfold setSD
  dsimp only
  rw [intsD_map, Option.bind_some, if_pos h]
def catD (a b : D) : Option (List D) := match a, b with
  | .list x, .list y => if x.length + y.length ≤ sizeLine then some (x ++ y) else none
  | _, _ => none
@[simp] theorem fCatL_s (f g : FE) (s : S) : fCatL f g s = (f s).bind fun a s => (g s).bind fun b s => R.of (catD a b) s := by
  unfold fCatL catD
  congr 1; funext a s; congr 1; funext b s
  cases a <;> try rfl
  cases b <;> try rfl
  dsimp only
  split <;> rfl
theorem catD_ll {x y : List D} (h : x.length + y.length ≤ sizeLine) : catD (.list x) (.list y) = some (x ++ y) := by
  unfold catD
  dsimp only
  rw [if_pos h]
def revD (d : D) : Option (List D) := match d with
  | .list x => some x.reverse
  | _ => none
@[simp] theorem revD_l (x : List D) : revD (.list x) = some x.reverse := rfl
@[simp] theorem fRevL_s (f : FE) (s : S) : fRevL f s = (f s).bind fun d s => R.of (revD d) s := by
  unfold fRevL revD
  congr 1; funext d s
  cases d <;> rfl
/-- what data are told apart by comparing -/
def Shp (n : Nat) (d : D) : Prop := d.canLay0 = true ∧ d.depth ≤ n
theorem Shp.mono {n m : Nat} {d : D} (h : Shp n d) (hm : n ≤ m) : Shp m d := ⟨h.1, Nat.le_trans h.2 hm⟩
theorem Shp.int {n : Nat} {i : Int} : Shp n (.int i) := ⟨rfl, Nat.zero_le _⟩
theorem Shp.bool {n : Nat} {i : Bool} : Shp n (.bool i) := ⟨rfl, Nat.zero_le _⟩
theorem Shp.none {n : Nat} : Shp n .none := ⟨rfl, Nat.zero_le _⟩
theorem Shp.all {n : Nat} : ∀ {ds : List D}, (∀ d ∈ ds, Shp n d) → PyData.canLayAll0 ds = true ∧ PyData.depthAll ds ≤ n
  | [], _ => ⟨rfl, Nat.zero_le _⟩
  | d :: ds, h => by
    have h1 := h d List.mem_cons_self
    have h2 := Shp.all fun x hx => h x (List.mem_cons_of_mem _ hx)
    refine ⟨?_, ?_⟩
    · rw [PyData.canLayAll0, h1.1, h2.1]; rfl
    · rw [PyData.depthAll]; exact Nat.max_le.mpr ⟨h1.2, h2.2⟩
theorem Shp.list {n : Nat} {ds : List D} (h : ∀ d ∈ ds, Shp n d) : Shp (n + 1) (.list ds) := ⟨by rw [PyData.canLay0]; exact (Shp.all h).1, by rw [PyData.depth]; have := (Shp.all h).2; omega⟩
theorem Shp.tuple {n : Nat} {ds : List D} (h : ∀ d ∈ ds, Shp n d) : Shp (n + 1) (.tuple ds) := ⟨by rw [PyData.canLay0]; exact (Shp.all h).1, by rw [PyData.depth]; have := (Shp.all h).2; omega⟩
theorem Shp.ok {n : Nat} {d : D} (h : Shp n d) (hn : n ≤ 64) : SeqAt.shaped d = true := by
  unfold SeqAt.shaped
  rw [h.1, decide_eq_true (Nat.le_trans h.2 hn)]; rfl
theorem Shp.ints {n : Nat} {l : List Int} : Shp (n + 1) (.list (l.map PyData.int)) := .list fun d hd => by
  obtain ⟨i, _, e⟩ := List.mem_map.mp hd
  subst e
  exact .int
theorem Shp.refl {n : Nat} {d : D} (h : Shp n d) : PyData.eqv d d = true := SeqAt.eqv_refl d h.1
theorem dNe_refl {n : Nat} {d : D} (h : Shp n d) (hn : n ≤ 64) : dNe d d = some (.bool false) := by
  unfold dNe; rw [if_pos ⟨h.ok hn, h.ok hn⟩, h.refl]; rfl
theorem dEq_refl {n : Nat} {d : D} (h : Shp n d) (hn : n ≤ 64) : dEq d d = some (.bool true) := by
  unfold dEq; rw [if_pos ⟨h.ok hn, h.ok hn⟩, h.refl]
theorem dNe_nil {n : Nat} {ds : List D} (h : Shp n (.list ds)) (hn : n ≤ 64) : dNe (.list ds) (.list []) = some (.bool (!ds.isEmpty)) := by
  unfold dNe; rw [if_pos ⟨h.ok hn, rfl⟩]
  cases ds <;> rfl
theorem dEq_nil {n : Nat} {ds : List D} (h : Shp n (.list ds)) (hn : n ≤ 64) : dEq (.list ds) (.list []) = some (.bool ds.isEmpty) := by
  unfold dEq; rw [if_pos ⟨h.ok hn, rfl⟩]
  cases ds <;> rfl
theorem any_int (l : List Int) (i : Int) : ((l.map PyData.int).any fun z => PyData.eqv z (.int i)) = decide (i ∈ l) := by
  induction l with
  | nil => rfl
  | cons x l ih =>
    rw [List.map_cons, List.any_cons, ih]
    by_cases h : x = i
    · subst h; simp [PyData.eqv]
    · have h' : ¬ i = x := fun e => h e.symm
      simp [PyData.eqv, h, h']
theorem dIn_int {l : List Int} {i : Int} : dIn (.int i) (.list (l.map PyData.int)) = some (.bool (decide (i ∈ l))) := by
  unfold dIn dInX; dsimp only; rw [if_pos ⟨rfl, Shp.ok (n := 1) Shp.ints (by decide)⟩, any_int, Bool.false_xor]
theorem dNin_int {l : List Int} {i : Int} : dNin (.int i) (.list (l.map PyData.int)) = some (.bool (!decide (i ∈ l))) := by
  unfold dNin dInX; dsimp only; rw [if_pos ⟨rfl, Shp.ok (n := 1) Shp.ints (by decide)⟩, any_int, Bool.true_xor]
theorem forD_inv (Inv : S → Prop) : ∀ (ds : List D) (s : S), Inv s → (∀ d ∈ ds, ∀ s, Inv s → ∃ s1 s2, tg d s = some s1 ∧ (body s1 = .nx s2 ∨ body s1 = .ct s2) ∧ Inv (kill kl s2)) → ∃ s', forD kl tg body ds s = .nx s' ∧ Inv s'
  | [], s, h, _ => ⟨s, rfl, h⟩
  | d :: ds, s, h, hb => by
    obtain ⟨s1, s2, e1, e2, h2⟩ := hb d List.mem_cons_self s h
    obtain ⟨s', e', h'⟩ := forD_inv Inv ds (kill kl s2) h2 fun d hd => hb d (List.mem_cons_of_mem _ hd)
    refine ⟨s', ?_, h'⟩
    rw [forD, e1]
    dsimp only
    rcases e2 with e2 | e2 <;> rw [e2] <;> exact e'
theorem forD_fold {α β : Type} (v : β → D) (st : α → S) (step : α → β → α) (I : α → Prop) : ∀ (xs : List β), (∀ a x, x ∈ xs → I a → I (step a x) ∧ ∃ s1 s2, tg (v x) (st a) = some s1 ∧ (body s1 = .nx s2 ∨ body s1 = .ct s2) ∧ kill kl s2 = st (step a x)) →
    ∀ a, I a → forD kl tg body (xs.map v) (st a) = .nx (st (xs.foldl step a)) ∧ I (xs.foldl step a)
  | [], _, a, h => ⟨rfl, h⟩
  | x :: xs, hb, a, h => by
    obtain ⟨i2, s1, s2, e1, e2, e3⟩ := hb a x List.mem_cons_self h
    have ih := forD_fold v st step I xs (fun a x hx => hb a x (List.mem_cons_of_mem _ hx)) (step a x) i2
    refine ⟨?_, ih.2⟩
    rw [List.map_cons, forD, e1]
    dsimp only
    rcases e2 with e2 | e2 <;> rw [e2] <;> (show forD kl tg body (xs.map v) (kill kl s2) = _) <;> rw [e3] <;> exact ih.1
theorem forD_foldi {α β : Type} (v : β → D) (st : α → S) (step : α → β → α) (I : Nat → α → Prop) : ∀ (xs : List β) (n : Nat), (∀ i a x, xs[i]? = some x → I (n + i) a → I (n + i + 1) (step a x) ∧ ∃ s1 s2, tg (v x) (st a) = some s1 ∧ (body s1 = .nx s2 ∨ body s1 = .ct s2) ∧ kill kl s2 = st (step a x)) →
    ∀ a, I n a → forD kl tg body (xs.map v) (st a) = .nx (st (xs.foldl step a)) ∧ I (n + xs.length) (xs.foldl step a)
  | [], _, _, a, h => ⟨rfl, h⟩
  | x :: xs, n, hb, a, h => by
    obtain ⟨i2, s1, s2, e1, e2, e3⟩ := hb 0 a x rfl h
    have ih := forD_foldi v st step I xs (n + 1) (fun i a x hx hi => by
      have z := hb (i + 1) a x hx (by rw [show n + (i + 1) = n + 1 + i by omega]; exact hi)
      rw [show n + (i + 1) = n + 1 + i by omega] at z
      exact z) (step a x) i2
    refine ⟨?_, by rw [List.length_cons, show n + (xs.length + 1) = n + 1 + xs.length by omega]; exact ih.2⟩
    rw [List.map_cons, forD, e1]
    dsimp only
    rcases e2 with e2 | e2 <;> rw [e2] <;> (show forD kl tg body (xs.map v) (kill kl s2) = _) <;> rw [e3] <;> exact ih.1
theorem cmpD_pure {β : Type} {vs : List Nat} {ft : FT} {fe : FE} (v : β → D) (p : β → Bool) (g : β → D) (s : S) : ∀ (xs : List β),
    (∀ x ∈ xs, ∃ s1 s2, tg (v x) s = some s1 ∧ ft s1 = .ok (p x) s2 ∧ (p x = true → ∃ s3, fe s2 = .ok (g x) s3 ∧ kill vs s3 = s) ∧ (p x = false → kill vs s2 = s)) →
    ∀ n, n + xs.length ≤ sizeLine → cmpD vs tg ft fe (xs.map v) n s = .ok ((xs.filter p).map g) s
  | [], _, n, _ => rfl
  | x :: xs, h, n, hn => by
    obtain ⟨s1, s2, e1, e2, e3, e4⟩ := h x List.mem_cons_self
    have ih := cmpD_pure (vs := vs) (ft := ft) (fe := fe) v p g s xs fun x hx => h x (List.mem_cons_of_mem _ hx)
    rw [List.length_cons] at hn
    rw [List.map_cons, cmpD, e1]
    dsimp only
    simp only [e2, R.nox_ok, R.bind_ok]
    cases hp : p x with
    | true =>
      obtain ⟨s3, e5, e6⟩ := e3 hp
      rw [if_pos rfl, e5]
      simp only [R.nox_ok, R.bind_ok]
      rw [if_pos (by omega), e6, ih (n + 1) (by omega), List.filter_cons, if_pos hp]
      rfl
    | false =>
      rw [if_neg (by decide), e4 hp, ih n (by omega), List.filter_cons, if_neg (by rw [hp]; decide)]
theorem cmpD_inv {vs : List Nat} {ft : FT} {fe : FE} (Inv : S → Prop) (Q : D → Prop) : ∀ (ds : List D),
    (∀ d ∈ ds, ∀ s, Inv s → ∃ s1 b s2, tg d s = some s1 ∧ ft s1 = .ok b s2 ∧ (b = true → ∃ y s3, fe s2 = .ok y s3 ∧ Q y ∧ Inv (kill vs s3)) ∧ (b = false → Inv (kill vs s2))) →
    ∀ n s, n + ds.length ≤ sizeLine → Inv s → ∃ ys s', cmpD vs tg ft fe ds n s = .ok ys s' ∧ Inv s' ∧ (∀ y ∈ ys, Q y) ∧ ys.length ≤ ds.length
  | [], _, n, s, _, hs => ⟨[], s, rfl, hs, (fun _ h => nomatch h), Nat.le_refl _⟩
  | d :: ds, h, n, s, hn, hs => by
    obtain ⟨s1, b, s2, e1, e2, e3, e4⟩ := h d List.mem_cons_self s hs
    have ih := cmpD_inv (vs := vs) (ft := ft) (fe := fe) Inv Q ds fun x hx => h x (List.mem_cons_of_mem _ hx)
    rw [List.length_cons] at hn
    rw [cmpD, e1]
    simp only [e2, R.nox_ok, R.bind_ok]
    cases b with
    | true =>
      obtain ⟨y, s3, e5, q, e6⟩ := e3 rfl
      obtain ⟨ys, s', e7, i7, q7, l7⟩ := ih (n + 1) _ (by omega) e6
      refine ⟨y :: ys, s', ?_, i7, ?_, ?_⟩
      · rw [if_pos rfl, e5]
        simp only [R.nox_ok, R.bind_ok]
        rw [if_pos (by omega), e7]
        rfl
      · intro z hz
        rcases List.mem_cons.mp hz with e | hz
        · rw [e]; exact q
        · exact q7 z hz
      · simp only [List.length_cons]; omega
    | false =>
      obtain ⟨ys, s', e7, i7, q7, l7⟩ := ih n _ (by omega) (e4 rfl)
      refine ⟨ys, s', ?_, i7, q7, ?_⟩
      · rw [if_neg (by decide), e7]
      · simp only [List.length_cons]; omega
theorem cmpD_inv_eq {vs : List Nat} {ft : FT} {fe : FE} (Inv : S → Prop) (Q : D → Prop) : ∀ (ds : List D),
    (∀ d ∈ ds, ∀ s, Inv s → ∃ s1 s2 y s3, tg d s = some s1 ∧ ft s1 = .ok true s2 ∧ fe s2 = .ok y s3 ∧ Q y ∧ Inv (kill vs s3)) →
    ∀ n s, n + ds.length ≤ sizeLine → Inv s → ∃ ys s', cmpD vs tg ft fe ds n s = .ok ys s' ∧ Inv s' ∧ (∀ y ∈ ys, Q y) ∧ ys.length = ds.length
  | [], _, n, s, _, hs => ⟨[], s, rfl, hs, (fun _ h => nomatch h), rfl⟩
  | d :: ds, h, n, s, hn, hs => by
    obtain ⟨s1, s2, y, s3, e1, e2, e5, q, e6⟩ := h d List.mem_cons_self s hs
    have ih := cmpD_inv_eq (vs := vs) (ft := ft) (fe := fe) Inv Q ds fun x hx => h x (List.mem_cons_of_mem _ hx)
    rw [List.length_cons] at hn
    obtain ⟨ys, s', e7, i7, q7, l7⟩ := ih (n + 1) _ (by omega) e6
    refine ⟨y :: ys, s', ?_, i7, ?_, ?_⟩
    · rw [cmpD, e1]
      simp only [e2, R.nox_ok, R.bind_ok]
      rw [if_pos trivial, e5]
      simp only [R.nox_ok, R.bind_ok]
      rw [if_pos (by omega), e7]
      rfl
    · intro z hz
      rcases List.mem_cons.mp hz with e | hz
      · rw [e]; exact q
      · exact q7 z hz
    · simp only [List.length_cons]; omega
theorem ints_of {P : Int → Prop} : ∀ {ys : List D}, (∀ y ∈ ys, ∃ i, y = .int i ∧ P i) → ∃ l : List Int, ys = l.map PyData.int ∧ ∀ i ∈ l, P i
  | [], _ => ⟨[], rfl, (fun _ h => nomatch h)⟩
  | y :: ys, h => by
    obtain ⟨i, e, hi⟩ := h y List.mem_cons_self
    obtain ⟨l, e2, hl⟩ := ints_of fun y hy => h y (List.mem_cons_of_mem _ hy)
    refine ⟨i :: l, by rw [e, e2]; rfl, fun j hj => ?_⟩
    rcases List.mem_cons.mp hj with e3 | hj
    · rw [e3]; exact hi
    · exact hl j hj
theorem upTo_eq (lo : Int) (n : Nat) : upTo lo n = ((List.range n).map fun (i : Nat) => lo + (i : Int)).map PyData.int := by
  unfold upTo
  rw [List.map_map]
  rfl
end
end PD
namespace PD
open PySem PySem.Spec L2
open PyProof.Rows hiding St
variable [WI]
/-! ### more plain laws -/
def asgO (o : Option S) : O := match o with
  | some s => .nx s
  | none => .bad
@[simp] theorem asgO_some (s : S) : asgO (some s) = .nx s := rfl
@[simp] theorem sAsg_gTp (f : FE) (n : Nat) (h : FGs) (s : S) : sAsg f (gTp n h) s = (f s).stm fun d s => asgO (gTp n h d s) := rfl
theorem getD_lt {α : Type} {m : List α} {x : Nat} {d : α} (h : x < m.length) : m.getD x d = m[x] := by simp [List.getD_eq_getElem?_getD, h]
/-- the i-th number -/
def nth (m : List Nat) (x : Nat) : Nat := m.getD x 0
theorem nth_lt {m : List Nat} {x : Nat} (h : x < m.length) : nth m x = m[x] := getD_lt h
theorem nth_mem {m : List Nat} {x : Nat} (h : x < m.length) : nth m x ∈ m := by rw [nth_lt h]; exact List.getElem_mem h
theorem atI_nD {m : List Nat} {x : Nat} (h : x < m.length) : atI (m.map nD) (x : Int) = some (nD (nth m x)) := by
  rw [atI_nn (by rw [List.length_map]; exact h), List.getElem_map, nth_lt h]
theorem dMul_nat_l {a b : Nat} (h : a < 2 ^ 60) : dMul (.int (a : Int)) (.int (b : Int)) = some (.int ((a * b : Nat) : Int)) := by
  rw [dMul_l (by omega) (by omega), Int.natCast_mul]
theorem nD_eq (n : Nat) : nD n = .int (n : Int) := rfl
theorem nD_ofNat (n : Nat) : (PyData.int (OfNat.ofNat n : Int)) = nD n := rfl
@[simp] theorem fStar_s (f : FE) (g : FA) (s : S) : fStar f g s = (f s).bind fun d s => (R.of (items d) s).bind fun xs s => (g s).bind fun ds s => .ok (xs ++ ds) s := by
  unfold fStar
  congr 1; funext d s
  cases d <;> rfl
@[simp] theorem fListF_s (f : FE) (s : S) : fListF f s = (f s).bind fun d s => R.of (items d) s := rfl
@[simp] theorem dTup_list (ds : List D) : dTup (.list ds) = some (.tuple ds) := rfl
@[simp] theorem dTup_tuple (ds : List D) : dTup (.tuple ds) = some (.tuple ds) := rfl
theorem shl1_nat (x : Nat) (hx : x < 1000) : dShl (.int 1) (.int (x : Int)) = some (.int ((2 ^ x : Nat) : Int)) := by
  have hc : CShl 1 (x : Int) := ⟨by omega, by show ((1 : Nat) : Int) + x ≤ 2 ^ 27; omega⟩
  simp only [dShl, dI]
  rw [if_pos hc, Int.one_mul, Int.toNat_natCast, Int.natCast_pow]
  rfl
end PD
namespace PD
open PySem PySem.Spec L2
open PyProof.Rows hiding St
variable [WI]
@[simp] theorem wst_eta (w : Wst) : (⟨w.ns, w.k⟩ : Wst) = w := rfl
def borR (r : FR) (s : S) : R D := match r with
  | .ret d w => if atomD d = true then .ok d ⟨s.ρ, ⟨s.w.ns, w.k⟩⟩ else .bad
  | .exc k as w => if as.all atomD = true then .exc k as ⟨s.ρ, ⟨s.w.ns, w.k⟩⟩ else .bad
  | .bad => .bad
def borE (o : Option (List D)) (n : Nat) (sem : Sem') (s : S) : R D := match o with
  | none => .bad
  | some ds => if ds.length = n then borR (sem ds s.w) s else .bad
@[simp] theorem fCallB_s (n : Nat) (sem : Sem') (f : FBs) (s : S) : fCallB n sem f s = borE (f s) n sem s := rfl
@[simp] theorem borE_some (ds : List D) (n : Nat) (sem : Sem') (s : S) : borE (some ds) n sem s = if ds.length = n then borR (sem ds s.w) s else .bad := rfl
@[simp] theorem borR_ret (d : D) (w : Wst) (s : S) : borR (.ret d w) s = if atomD d = true then .ok d ⟨s.ρ, ⟨s.w.ns, w.k⟩⟩ else .bad := rfl
@[simp] theorem atomD_int (i : Int) : atomD (.int i) = true := rfl
@[simp] theorem atomD_nD (i : Nat) : atomD (nD i) = true := rfl
@[simp] theorem bSlot_s (i : Nat) (s : S) : bSlot i s = lkE s.ρ[i]? := rfl
@[simp] theorem bCst_s (d : D) (s : S) : bCst d s = some d := rfl
@[simp] theorem bAll0_s (s : S) : bAll0 s = some [] := rfl
@[simp] theorem bAll1_s (f : FB) (g : FBs) (s : S) : bAll1 f g s = (f s).bind fun d => (g s).map fun ds => d :: ds := rfl
end PD
namespace PD
open PySem PySem.Spec L2
open PyProof.Rows hiding St
variable [WI]
@[simp] theorem fRepL_s (f : FA) (g : FE) (s : S) : fRepL f g s = (f s).bind fun ds s => if ds.length ≤ sizeLine then (g s).nox.bind fun k s => R.of (repD ds k) s else .bad := rfl
theorem rep_one {α : Type} (d : α) : ∀ k : Nat, (List.replicate k [d]).flatten = List.replicate k d
  | 0 => rfl
  | k + 1 => by rw [List.replicate_succ, List.flatten_cons, rep_one d k]; rfl
theorem repD_nat {d : D} {k : Nat} (h : k ≤ 2 ^ 20) : repD [d] (.int (k : Int)) = some (List.replicate k d) := by
  unfold repD
  have : (2 ^ 20 : Nat) ≤ sizeLine := by decide
  dsimp only
  rw [if_pos (by refine ⟨by omega, by omega, ?_⟩; rw [Int.toNat_natCast, List.length_singleton, Nat.one_mul]; omega), Int.toNat_natCast, rep_one]
end PD
namespace PD
open PySem PySem.Spec L2
open PyProof.Rows hiding St
variable [WI]
theorem dAnd_nD (a b : Nat) : dAnd (nD a) (nD b) = some (nD (a &&& b)) := by
  show some (PyData.int (Builtin.bitAnd _ _)) = _
  rw [bitAnd_pp (Int.natCast_nonneg _) (Int.natCast_nonneg _), Int.toNat_natCast, Int.toNat_natCast]
  rfl
theorem dOr_nD (a b : Nat) : dOr (nD a) (nD b) = some (nD (a ||| b)) := by
  show some (PyData.int (Builtin.bitOr _ _)) = _
  rw [Bits.bitOr_pp (Int.natCast_nonneg _) (Int.natCast_nonneg _), Int.toNat_natCast, Int.toNat_natCast]
  rfl
theorem dXor_nD (a b : Nat) : dXor (nD a) (nD b) = some (nD (a ^^^ b)) := by
  show some (PyData.int (Builtin.bitXor _ _)) = _
  rw [Bits.bitXor_pp (Int.natCast_nonneg _) (Int.natCast_nonneg _), Int.toNat_natCast, Int.toNat_natCast]
  rfl
theorem dShr_nD (a b : Nat) : dShr (nD a) (nD b) = some (nD (a / 2 ^ b)) := by
  unfold nD
  rw [dShr_ii (Int.natCast_nonneg _), Int.toNat_natCast, Int.natCast_ediv, Int.natCast_pow]
  rfl
theorem shl_nD {a b : Nat} (ha : a < 2 ^ 64) (hb : b < 1000000) : dShl (nD a) (nD b) = some (nD (a * 2 ^ b)) := by
  have h1 : Builtin.Int.intBits (a : Int) ≤ 64 := intBits_le_64 (by omega) (by omega)
  have hc : CShl (a : Int) (b : Int) := ⟨by omega, by omega⟩
  unfold nD
  simp only [dShl, dI]
  rw [if_pos hc, Int.toNat_natCast, Int.natCast_mul, Int.natCast_pow]
  rfl
theorem and_one (x : Nat) : x &&& 1 = x % 2 := by
  have := Nat.and_two_pow_sub_one_eq_mod x 1
  simpa using this
theorem enumFrom_nat (v : Nat → D) : ∀ (l : List Nat) (k : Nat), enumFrom (k : Int) (l.map v) = (l.zipIdx k).map fun p => .tuple [nD p.2, v p.1]
  | [], _ => rfl
  | x :: l, k => by
    have z := enumFrom_nat v l (k + 1)
    rw [List.map_cons, enumFrom, List.zipIdx_cons, List.map_cons, ← z]
    rfl
@[simp] theorem fEnum_s (f : FE) (s : S) : fEnum f s = (f s).bind fun d s => R.of ((items d).map (enumFrom 0)) s := rfl
theorem dSub_nD {a b : Nat} (h : b ≤ a) : dSub (nD a) (nD b) = some (nD (a - b)) := by
  show some (PyData.int _) = some (PyData.int _)
  congr 2
  omega
theorem dEq_nD (a b : Nat) : dEq (nD a) (nD b) = some (.bool (decide (a = b))) := by
  unfold nD
  rw [dEq_ii]
  congr 2
  by_cases h : a = b
  · subst h; simp
  · have h' : ¬ (a : Int) = (b : Int) := by omega
    simp [h, h']
end PD
/-! PDy: more plain laws: slices, tuples put together -/
namespace PD
open PySem PySem.Spec L2
open PyProof.Rows hiding St
variable [WI]
def ptD (d : D) : Option (Option Int) := match d with
  | .int i => some (some i)
  | _ => none
@[simp] theorem ptD_i (i : Int) : ptD (.int i) = some (some i) := rfl
@[simp] theorem ptD_nD (n : Nat) : ptD (nD n) = some (some (n : Int)) := rfl
@[simp] theorem fNoP_s (s : S) : fNoP s = .ok none s := rfl
@[simp] theorem fPt_s (f : FE) (s : S) : fPt f s = (f s).bind fun d s => R.of (ptD d) s := by
  unfold fPt ptD
  congr 1; funext d s
  cases d <;> rfl
@[simp] theorem fCutX_s (f : FE) (l u : FP) (s : S) : fCutX f l u s = (f s).bind fun d s => (l s).bind fun l s => (u s).bind fun u s => R.of (dCutX d l u) s := rfl
@[simp] theorem dCutX_list (ds : List D) (l u : Option Int) : dCutX (.list ds) l u = some (.list (cutG ds l u)) := rfl
@[simp] theorem dCutX_tuple (ds : List D) (l u : Option Int) : dCutX (.tuple ds) l u = some (.tuple (cutG ds l u)) := rfl
theorem cutG_to {α : Type} (xs : List α) (n : Nat) : cutG xs none (some (n : Int)) = xs.take n := by
  unfold cutG
  rw [HT.sIx_nat, HT.sIx_none, List.drop_zero, Nat.sub_zero]
  rcases Nat.le_total n xs.length with h | h
  · rw [Nat.min_eq_left h]
  · rw [Nat.min_eq_right h, List.take_of_length_le (Nat.le_refl _), List.take_of_length_le h]
theorem cutG_from {α : Type} (xs : List α) (n : Nat) : cutG xs (some (n : Int)) none = xs.drop n := by
  unfold cutG
  rw [HT.sIx_nat, HT.sIx_none]
  rcases Nat.le_total n xs.length with h | h
  · rw [Nat.min_eq_left h, List.take_of_length_le (by rw [List.length_drop]; omega)]
  · rw [Nat.min_eq_right h, List.drop_of_length_le (Nat.le_refl _), List.drop_of_length_le h, List.take_nil]
theorem dAddX_tt {a b : List D} (h : a.length + b.length ≤ sizeLine) : dAddX (.tuple a) (.tuple b) = some (.tuple (a ++ b)) := by
  have e : dAddX (.tuple a) (.tuple b) = dAddT (.tuple a) (.tuple b) := rfl
  rw [e]
  unfold dAddT
  dsimp only
  rw [if_pos h]
@[simp] theorem dAddX_nn (a b : Nat) : dAddX (nD a) (nD b) = some (nD (a + b)) := rfl
theorem sSeq_assoc (f g h : FO) : sSeq (sSeq f g) h = sSeq f (sSeq g h) := by
  funext s
  unfold sSeq
  cases f s <;> rfl
end PD
/-! PDz: more plain laws: texts, lists of its own put together -/
namespace PD
open PySem PySem.Spec L2
open PyProof.Rows hiding St
variable [WI]
@[simp] theorem fItX_s (f : FE) (s : S) : fItX f s = (f s).bind fun d s => R.of (itemsX d) s := rfl
@[simp] theorem itemsX_list (ds : List D) : itemsX (.list ds) = some ds := rfl
@[simp] theorem itemsX_tuple (ds : List D) : itemsX (.tuple ds) = some ds := rfl
@[simp] theorem itemsX_str (z : Str) : itemsX (.str z) = some (signs z) := rfl
@[simp] theorem fEnumK_s (f g : FE) (s : S) : fEnumK f g s = (f s).bind fun d s => (g s).bind fun k s => R.of (stD k d) s := rfl
@[simp] theorem isS_str {α : Type} (z : Str) (k : Str → R α) : isS (.str z) k = k z := rfl
@[simp] theorem fJoin_s (f g : FE) (s : S) : fJoin f g s = (f s).bind fun a s => isS a fun z => (g s).bind fun b s => R.of (joinD z b) s := rfl
@[simp] theorem fSplit_s (f g : FE) (s : S) : fSplit f g s = (f s).bind fun a s => isS a fun z => (g s).bind fun b s => R.of (splitD z b) s := rfl
@[simp] theorem fIts_nil (s : S) : fIts [] s = .ok [] s := rfl
@[simp] theorem fIts_inl (f : FE) (r : List FI) (s : S) : fIts (.inl f :: r) s = (f s).bind fun d s => (fIts r s).bind fun es s => .ok (.val d :: es) s := rfl
@[simp] theorem fIts_inr (f : S → R Ent) (r : List FI) (s : S) : fIts (.inr f :: r) s = (f s).bind fun d s => (fIts r s).bind fun es s => .ok (d :: es) s := rfl
@[simp] theorem fO_s (f : FA) (s : S) : fO f s = (f s).bind fun ds s => .ok (.own ds) s := rfl
@[simp] theorem putEs_nil (s : S) : putEs [] [] s = .nx s := rfl
@[simp] theorem putEs_cons (i : Nat) (is : List Nat) (e : Ent) (es : List Ent) (s : S) : putEs (i :: is) (e :: es) s = putEs is es (s.put i e) := rfl
@[simp] theorem sMix_s (is : List Nat) (f : S → R (List Ent)) (s : S) : sMix is f s = (f s).stm fun es s => putEs is es s := rfl
@[simp] theorem putAll_nil (s : S) : putAll [] [] s = .nx s := rfl
@[simp] theorem putAll_cons (i : Nat) (is : List Nat) (e : D) (es : List D) (s : S) : putAll (i :: is) (e :: es) s = putAll is es (s.put i (.val e)) := rfl
@[simp] theorem sPar_s (is : List Nat) (f : FA) (s : S) : sPar is f s = (f s).stm fun es s => putAll is es s := rfl
theorem joinD_strs {z : Str} {ys : List Str} (h : (ys.map (·.length)).sum + ys.length * z.length ≤ 16777216) : joinD z (.list (ys.map PyData.str)) = some (.str (Txt.join z ys)) := by
  unfold joinD
  simp [items, h]
theorem splitD_str {z y : Str} (h : (y.length == 0) = false) (h2 : z.length + 2 ≤ sizeLine) : splitD z (.str y) = some ((Txt.split z y).map PyData.str) := by
  unfold splitD
  dsimp only
  rw [if_pos ⟨h, h2⟩]
theorem stD_list {k : Int} {ds : List D} (h : -(2 ^ 62) ≤ k ∧ k < 2 ^ 62) : stD (.int k) (.list ds) = some (enumFrom k ds) := by
  unfold stD
  dsimp only
  rw [if_pos h]
  rfl
@[simp] theorem atI_zero {α : Type} (x : α) (xs : List α) : atI (x :: xs) 0 = some x := atI_nn (xs := x :: xs) (i := 0) (by simp)
@[simp] theorem sCnt_s (s : S) : sCnt s = .ct s := rfl
@[simp] theorem sBrk_s (s : S) : sBrk s = .bk s := rfl
@[simp] theorem sPass_s (s : S) : sPass s = .nx s := rfl
theorem sum_le {α : Type} (f : α → Nat) (b : Nat) : ∀ l : List α, (∀ x ∈ l, f x ≤ b) → (l.map f).sum ≤ l.length * b
  | [], _ => by simp
  | x :: l, h => by
    have ih := sum_le f b l fun y hy => h y (List.mem_cons_of_mem _ hy)
    have := h x List.mem_cons_self
    rw [List.map_cons, List.sum_cons, List.length_cons, Nat.succ_mul]
    omega
theorem lenD_str {z : Str} (h : z.length ≤ sizeLine) : lenD (.str z) = some (z.length : Int) := by
  unfold lenD
  dsimp only
  rw [if_pos h]
theorem dIx_str {z : Str} {i : Int} (h : z.length ≤ sizeLine) : dIx (.str z) (.int i) = (atI z.cps.toList i).map fun c => .str ⟨#[c]⟩ := by
  unfold dIx
  dsimp only
  rw [if_pos h]
theorem dAddX_ss {a b : Str} (h : a.length + b.length ≤ sizeLine) : dAddX (.str a) (.str b) = some (.str (a ++ b)) := by
  have e : dAddX (.str a) (.str b) = (dAddS (.str a) (.str b)).or (dAddT (.str a) (.str b)) := rfl
  rw [e]
  unfold dAddS
  dsimp only
  rw [if_pos h]
  rfl
/-- short texts of signs below 128 -/
theorem Shp.str {n : Nat} {z : Str} (h : ∀ c ∈ z.cps.toList, c < 128) : Shp n (.str z) := by
  refine ⟨?_, Nat.zero_le _⟩
  show PyData.strOk z = true
  unfold PyData.strOk
  rw [Array.all_eq_true_iff_forall_mem]
  intro c hc
  have := h c (by simpa using hc)
  simp
  omega
theorem dEq_shp {n : Nat} {a b : D} (ha : Shp n a) (hb : Shp n b) (hn : n ≤ 64) : dEq a b = some (.bool (PyData.eqv a b)) := by
  unfold dEq; rw [if_pos ⟨ha.ok hn, hb.ok hn⟩]
theorem dNe_shp {n : Nat} {a b : D} (ha : Shp n a) (hb : Shp n b) (hn : n ≤ 64) : dNe a b = some (.bool (!PyData.eqv a b)) := by
  unfold dNe; rw [if_pos ⟨ha.ok hn, hb.ok hn⟩]
theorem dEq_str {a b : Str} (ha : ∀ c ∈ a.cps.toList, c < 128) (hb : ∀ c ∈ b.cps.toList, c < 128) : dEq (.str a) (.str b) = some (.bool (a == b)) := by
  rw [dEq_shp (n := 0) (Shp.str ha) (Shp.str hb) (by decide)]
  simp only [PyData.eqv]
theorem dNe_str {a b : Str} (ha : ∀ c ∈ a.cps.toList, c < 128) (hb : ∀ c ∈ b.cps.toList, c < 128) : dNe (.str a) (.str b) = some (.bool (!(a == b))) := by
  rw [dNe_shp (n := 0) (Shp.str ha) (Shp.str hb) (by decide)]
  simp only [PyData.eqv]
theorem blsD_mapf {α : Type} (l : List α) (f : α → Bool) : blsD (l.map fun x => .bool (f x)) = some (l.map f) := by
  induction l with
  | nil => rfl
  | cons x l ih => rw [List.map_cons, blsD, ih]; rfl
theorem dAll_mapf {α : Type} (l : List α) (f : α → Bool) : dAll (.list (l.map fun x => .bool (f x))) = some (.bool (l.all f)) := by
  unfold dAll
  dsimp only
  rw [blsD_mapf, Option.map_some, List.all_map]
  rfl
theorem dAny_mapf {α : Type} (l : List α) (f : α → Bool) : dAny (.list (l.map fun x => .bool (f x))) = some (.bool (l.any f)) := by
  unfold dAny
  dsimp only
  rw [blsD_mapf, Option.map_some, List.any_map]
  rfl
theorem dGt_nn (a b : Nat) : dGt (nD a) (nD b) = some (.bool (decide (b < a))) := by
  show some (PyData.bool (decide ((b : Int) < (a : Int)))) = _
  congr 2
  exact decide_eq_decide.mpr Int.ofNat_lt
theorem dLt_nn (a b : Nat) : dLt (nD a) (nD b) = some (.bool (decide (a < b))) := by
  show some (PyData.bool (decide ((a : Int) < (b : Int)))) = _
  congr 2
  exact decide_eq_decide.mpr Int.ofNat_lt
theorem dNe_nn (a b : Nat) : dNe (nD a) (nD b) = some (.bool (!decide (a = b))) := by
  unfold nD
  rw [dNe_ii]
  congr 3
  by_cases h : a = b
  · subst h; simp
  · have h' : ¬ (a : Int) = (b : Int) := by omega
    simp [h, h']
theorem draws_list {vs : List Nat} {j : Nat} {fe : FE} {b : Nat} (st : Int → S) (h : ∀ k d, 0 ≤ k → ∃ r, r < b ∧ ∃ s3, fe ((st k).put j (.val d)) = .ok (nD r) s3 ∧ kill vs s3 = st (k + 1)) :
    ∀ (xs : List D) (k : Int) (m : Nat), 0 ≤ k → m + xs.length ≤ sizeLine → ∃ (l : List Nat) (k' : Int), 0 ≤ k' ∧ l.length = xs.length ∧ (∀ x ∈ l, x < b) ∧ cmpD vs (gNm j) fYes fe xs m (st k) = .ok (l.map nD) (st k')
  | [], k, m, hk, _ => ⟨[], k, hk, rfl, (fun _ h => nomatch h), rfl⟩
  | d :: xs, k, m, hk, hm => by
    obtain ⟨r, hr, s3, e1, e2⟩ := h k d hk
    rw [List.length_cons] at hm
    obtain ⟨l, k', hk', hl, hb, e3⟩ := draws_list st h xs (k + 1) (m + 1) (by omega) (by omega)
    refine ⟨r :: l, k', hk', by simp [hl], fun x hx => ?_, ?_⟩
    · rcases List.mem_cons.mp hx with q | q
      · rw [q]; exact hr
      · exact hb x q
    · rw [cmpD]
      dsimp only [gNm]
      simp only [fYes_s, R.nox_ok, R.bind_ok, e1]
      rw [if_pos trivial, if_pos (by omega), e2, e3]
      rfl
theorem forD_ex {α : Type} {kl : List Nat} {tg : FG} {body : FO} (st : α → S) (I : Nat → α → Prop) : ∀ (xs : List D) (n : Nat),
    (∀ i a d, xs[i]? = some d → I (n + i) a → ∃ a' s1 s2, I (n + i + 1) a' ∧ tg d (st a) = some s1 ∧ (body s1 = .nx s2 ∨ body s1 = .ct s2) ∧ kill kl s2 = st a') →
    ∀ a, I n a → ∃ a', forD kl tg body xs (st a) = .nx (st a') ∧ I (n + xs.length) a'
  | [], n, _, a, h => ⟨a, rfl, h⟩
  | d :: xs, n, hb, a, h => by
    obtain ⟨a', s1, s2, i2, e1, e2, e3⟩ := hb 0 a d rfl h
    obtain ⟨a2, e4, i3⟩ := forD_ex st I xs (n + 1) (fun i a d hx hi => by
      have z := hb (i + 1) a d hx (by rw [show n + (i + 1) = n + 1 + i by omega]; exact hi)
      rw [show n + (i + 1) = n + 1 + i by omega] at z
      exact z) a' i2
    refine ⟨a2, ?_, by rw [List.length_cons, show n + (xs.length + 1) = n + 1 + xs.length by omega]; exact i3⟩
    rw [forD, e1]
    dsimp only
    rcases e2 with e2 | e2 <;> rw [e2] <;> (show forD kl tg body xs (kill kl s2) = _) <;> rw [e3] <;> exact e4
end PD
/-! PDw: more plain laws: objects of own classes, dicts -/
namespace PD
open PySem PySem.Spec L2
open PyProof.Rows hiding St
variable [WI]
/-! ### fields, methods -/
def insE (cn : Str) (o : Option (Option Ent)) : Option (Bool × List (Str × D)) := match o with
  | some (some (.ins b n fs)) => if n = cn then some (b, fs) else none
  | _ => none
theorem insAt_s (cn : Str) (s : S) (i : Nat) : insAt cn s i = insE cn s.ρ[i]? := rfl
@[simp] theorem insE_ins (cn : Str) (b : Bool) (fs : List (Str × D)) : insE cn (some (some (.ins b cn fs))) = some (b, fs) := if_pos rfl
def fldE (o : Option (Bool × List (Str × D))) (f : Str) (s : S) : R D := match o with
  | some (_, fs) => R.of (fs.lookup f) s
  | none => .bad
@[simp] theorem fFld_s (cn : Str) (i : Nat) (f : Str) (s : S) : fFld cn i f s = fldE (insE cn s.ρ[i]?) f s := rfl
@[simp] theorem fldE_some (b : Bool) (fs : List (Str × D)) (f : Str) (s : S) : fldE (some (b, fs)) f s = R.of (fs.lookup f) s := rfl
def setFE (o : Option (Bool × List (Str × D))) (cn : Str) (i : Nat) (f : Str) (d : D) (s : S) : O := match o with
  | some (b, fs) => if fs.length < 1000 then .nx (s.put i (.ins b cn (putFD f d fs))) else .bad
  | none => .bad
@[simp] theorem sFldO_s (cn : Str) (i : Nat) (f : Str) (g : FE) (s : S) : sFldO cn i f g s = (g s).stm fun d s => setFE (insE cn s.ρ[i]?) cn i f d s := rfl
@[simp] theorem setFE_some (b : Bool) (fs : List (Str × D)) (cn : Str) (i : Nat) (f : Str) (d : D) (s : S) : setFE (some (b, fs)) cn i f d s = if fs.length < 1000 then .nx (s.put i (.ins b cn (putFD f d fs))) else .bad := rfl
def callME (o : Option (Bool × List (Str × D))) (cn : Str) (i n : Nat) (sem : SemM) (ds : List D) (s : S) : R D := match o with
  | some (b, fs) => if ds.length = n then methR cn i b sem fs ds s else .bad
  | none => .bad
def methE (o : Option (Bool × List (Str × D))) (cn : Str) (i : Nat) (m : Str) (n : Nat) (sem : SemM) (f : FA) (s : S) : R D := match o with
  | some (_, fs0) => if (fs0.lookup m).isNone = true then (f s).bind fun ds s => callME (insE cn s.ρ[i]?) cn i n sem ds s else .bad
  | none => .bad
@[simp] theorem fMeth_s (cn : Str) (i : Nat) (m : Str) (n : Nat) (sem : SemM) (f : FA) (s : S) : fMeth cn i m n sem f s = methE (insE cn s.ρ[i]?) cn i m n sem f s := rfl
@[simp] theorem methE_some (b : Bool) (fs0 : List (Str × D)) (cn : Str) (i : Nat) (m : Str) (n : Nat) (sem : SemM) (f : FA) (s : S) : methE (some (b, fs0)) cn i m n sem f s = if (fs0.lookup m).isNone = true then (f s).bind fun ds s => callME (insE cn s.ρ[i]?) cn i n sem ds s else .bad := rfl
@[simp] theorem callME_some (b : Bool) (fs : List (Str × D)) (cn : Str) (i n : Nat) (sem : SemM) (ds : List D) (s : S) : callME (some (b, fs)) cn i n sem ds s = if ds.length = n then methR cn i b sem fs ds s else .bad := rfl
def mR (cn : Str) (i : Nat) (b : Bool) (r : FRm) (s : S) : R D := match r with
  | .ret d fs' w => .ok d (({ s with w := w } : S).put i (.ins b cn fs'))
  | .exc k as fs' w => .exc k as (({ s with w := w } : S).put i (.ins b cn fs'))
  | .bad => .bad
@[simp] theorem methR_s (cn : Str) (i : Nat) (b : Bool) (sem : SemM) (fs : List (Str × D)) (ds : List D) (s : S) : methR cn i b sem fs ds s = mR cn i b (sem fs ds s.w) s := rfl
@[simp] theorem mR_ret (cn : Str) (i : Nat) (b : Bool) (d : D) (fs' : List (Str × D)) (w : Wst) (ρ : List (Option Ent)) (w0 : Wst) : mR cn i b (.ret d fs' w) ⟨ρ, w0⟩ = .ok d ⟨ρ.set i (some (.ins b cn fs')), w⟩ := rfl
@[simp] theorem mR_exc (cn : Str) (i : Nat) (b : Bool) (k : Nat) (as : List D) (fs' : List (Str × D)) (w : Wst) (ρ : List (Option Ent)) (w0 : Wst) : mR cn i b (.exc k as fs' w) ⟨ρ, w0⟩ = .exc k as ⟨ρ.set i (some (.ins b cn fs')), w⟩ := rfl
def nR (cn : Str) (r : FRm) (s : S) : R Ent := match r with
  | .ret .none fs' w => .ok (.ins false cn fs') { s with w := w }
  | .exc k as _ w => .exc k as { s with w := w }
  | _ => .bad
@[simp] theorem fNew_s (cn : Str) (n : Nat) (sem : SemM) (f : FA) (s : S) : fNew cn n sem f s = (f s).bind fun ds s => if ds.length = n then nR cn (sem [] ds s.w) s else .bad := rfl
@[simp] theorem nR_ret (cn : Str) (fs' : List (Str × D)) (w : Wst) (ρ : List (Option Ent)) (w0 : Wst) : nR cn (.ret .none fs' w) ⟨ρ, w0⟩ = .ok (.ins false cn fs') ⟨ρ, w⟩ := rfl
@[simp] theorem nR_exc (cn : Str) (k : Nat) (as : List D) (fs' : List (Str × D)) (w : Wst) (ρ : List (Option Ent)) (w0 : Wst) : nR cn (.exc k as fs' w) ⟨ρ, w0⟩ = .exc k as ⟨ρ, w⟩ := rfl
/-! what a method ends in -/
def omE (o : Option (Bool × List (Str × D))) (d : D) (w : Wst) : FRm := match o with
  | some (true, fs) => .ret d fs w
  | _ => .bad
@[simp] theorem omE_some (fs : List (Str × D)) (d : D) (w : Wst) : omE (some (true, fs)) d w = .ret d fs w := rfl
@[simp] theorem outM_rt (cn : Str) (d : D) (s : S) : outM cn (.rt d s) = omE (insE cn s.ρ[0]?) d s.w := rfl
@[simp] theorem outM_nx (cn : Str) (s : S) : outM cn (.nx s) = omE (insE cn s.ρ[0]?) .none s.w := rfl
def oxE (o : Option (Bool × List (Str × D))) (k : Nat) (as : List D) (w : Wst) : FRm := match o with
  | some (true, fs) => .exc k as fs w
  | _ => .bad
@[simp] theorem oxE_some (fs : List (Str × D)) (k : Nat) (as : List D) (w : Wst) : oxE (some (true, fs)) k as w = .exc k as fs w := rfl
@[simp] theorem outM_exc (cn : Str) (k : Nat) (as : List D) (s : S) : outM cn (.exc k as s) = oxE (insE cn s.ρ[0]?) k as s.w := rfl
/-! ### dicts -/
@[simp] theorem fIxX_s (i : Nat) (g : FE) (s : S) : fIxX i g s = thenR (lkE s.ρ[i]?) ((g s).bind fun b s => R.of ((lkE s.ρ[i]?).bind fun a => dIxX a b) s) := by
  unfold fIxX thenR
  rw [look_s]
  cases lkE s.ρ[i]? <;> rfl
@[simp] theorem dIxX_list (ds : List D) (b : D) : dIxX (.list ds) b = dIx (.list ds) b := rfl
@[simp] theorem dIxX_tuple (ds : List D) (b : D) : dIxX (.tuple ds) b = dIx (.tuple ds) b := rfl
@[simp] theorem dIxX_dicD (es : List (Key × D)) (b : D) : dIxX (dicD es) b = (kD b).bind fun k => lkD es k := by
  unfold dIxX dicD
  dsimp only
  rw [kesD_dic]
  rfl
@[simp] theorem kD_int (i : Int) : kD (.int i) = some (.inl i) := rfl
@[simp] theorem kD_nD (n : Nat) : kD (nD n) = some (.inl (n : Int)) := rfl
def dicE (o : Option (Option Ent)) (k : Option Key) (i : Nat) (d : D) (s : S) : O := match o, k with
  | some (some (.dic es)), some k => if es.length < sizeLine then .nx (s.put i (.dic (putKD es k d))) else .bad
  | _, _ => .bad
@[simp] theorem sSetD_s (i : Nat) (f g : FE) (s : S) : sSetD i f g s = (f s).stm fun d s => thenO (lkE s.ρ[i]?) ((g s).stm fun j s => dicE s.ρ[i]? (kD j) i d s) := by
  unfold sSetD thenO
  congr 1
@[simp] theorem dicE_some (es : List (Key × D)) (k : Key) (i : Nat) (d : D) (s : S) : dicE (some (some (.dic es))) (some k) i d s = if es.length < sizeLine then .nx (s.put i (.dic (putKD es k d))) else .bad := rfl
@[simp] theorem sSetN_s (i : Nat) (f : S → R Ent) (s : S) : sSetN i f s = (f s).stm fun e s => .nx (s.put i e) := rfl
def dictE (d : D) (s : S) : R Ent := match d with
  | .dict es => (R.of (kesD es) s).bind fun m s => .ok (.dic m) s
  | _ => .bad
@[simp] theorem fDict_s (f : FE) (s : S) : fDict f s = (f s).bind fun d s => dictE d s := rfl
@[simp] theorem dictE_dicD (es : List (Key × D)) (s : S) : dictE (dicD es) s = .ok (.dic es) s := by
  unfold dictE dicD
  dsimp only
  rw [kesD_dic]
  rfl
@[simp] theorem fPairs_nil (s : S) : fPairs [] s = .ok [] s := rfl
@[simp] theorem fPairs_cons (f g : FE) (r : List FPr) (s : S) : fPairs ((f, g) :: r) s = (f s).bind fun k s => (g s).bind fun d s => (R.of (kD k) s).bind fun k s => (fPairs r s).bind fun l s => .ok ((k, d) :: l) s := rfl
@[simp] theorem fDisp_s (l : List FPr) (s : S) : fDisp l s = (fPairs l s).bind fun m s => if m.length ≤ 15 then .ok (.dic (mergeKD [] m)) s else .bad := rfl
@[simp] theorem fDic0_s (s : S) : fDic0 s = .ok (.dic []) s := rfl
def updE (e : Ent) (o : Option (Option Ent)) (i : Nat) (s : S) : O := match e, o with
  | .dic more, some (some (.dic es)) => if es.length + more.length ≤ sizeLine then .nx (s.put i (.dic (mergeKD es more))) else .bad
  | _, _ => .bad
theorem sUpd_s (i : Nat) (f : S → R Ent) (s : S) : sUpd i f s = if isDic s i = true then (f s).stm fun e s => updE e s.ρ[i]? i s else .bad := rfl
@[simp] theorem updE_dic (more es : List (Key × D)) (i : Nat) (s : S) : updE (.dic more) (some (some (.dic es))) i s = if es.length + more.length ≤ sizeLine then .nx (s.put i (.dic (mergeKD es more))) else .bad := rfl
@[simp] theorem fDComp_s (vs : List Nat) (fi : FA) (tg : FG) (ft : FT) (fk fv : FE) (s : S) : fDComp vs fi tg ft fk fv s = (fi s).bind fun ds s => (dcmpD vs tg ft fk fv ds [] (kill vs s)).bind fun es s => .ok (.dic es) s := rfl
/-! ### try .. -/
def tryC (k i y : Nat) (g : List D → D) (b : Bool) (o : O) : O := match o with
  | .exc k' as s' => if k' = k ∧ i < s'.ρ.length ∧ i ≠ y then (match s'.ρ[y]? with
      | some (some (.val d)) => (match dNe (g as) d with
        | some (.bool true) => .rt (.bool b) (s'.drop i)
        | some (.bool false) => .nx (s'.drop i)
        | _ => .bad)
      | _ => .bad) else .bad
  | o => o
theorem sTryC_s (k i y : Nat) (fb : FO) (g : List D → D) (b : Bool) (s : S) : sTryC k i y fb g b s = tryC k i y g b (fb s) := rfl
end PD
/-! PD20: lambdas without parameters handed to a def that tries them: try: a() / except X as n: return (n.f,) / return (). -/
namespace PD
open PySem PySem.Spec L2
open PyProof.Rows hiding St
variable [WI]
theorem Takes.len {X : Cx} {W : WX} (tk : Takes X W) : Takes X (fun cls d σ H => σ.length = X.N.length → W cls d σ H) := fun u s' ⟨a, B, sI, pins, σ, H, cls, d, e, I, r1, r2, r3, r4, r5, r6, q⟩ =>
  tk u s' ⟨a, B, sI, pins, σ, H, cls, d, e, I, r1, r2, r3, r4, r5, r6, q I.len⟩
/-- what the caller gets: (v,) of the exception's field, or () -/
def TTerr (C : Addr) (f : Str) : (XK → Hp → VK → Prop) → Hp → VK → Prop := fun tl H Q =>
  tl (fun cls d H' => cls = .ref C ∧ ∃ dd fl v, d = some dd ∧ H' dd = some (.xd fl) ∧ fl.lookup f = some v ∧ ∀ p, H' p = none → Q (.ref p) (upd H' p (.tup [v]))) H fun _ H' => ([] : List V).length ≤ sizeLine ∧ ∀ p, H' p = none → Q (.ref p) (upd H' p (.tup []))
theorem err_gives {X : Cx} {Ng fs : List Str} {x a e n f q : Str} {sg : Scope} {g C fI : Addr} {cdg : Value} {i k1 k2 : Nat} {p1 p2 p3 p4 p5 p6 p7 p8 p9 p10 p11 p12 : Pos} (T : XCls X.K X.mg e C fI fs) (hf : f ∈ fs) (hge : sg.names.lookup e = some .globalImplicit) (hde : (e == ("__debug__" : Str)) = false)
    (hN : Ng.Nodup) (hi : Ng[i]? = some n) (hln : sg.names.lookup n = some .local) (hkn : ∀ L : Addr, (envOfC x sg L g cdg).kindOf n = some .local) (hdn : (n == ("__debug__" : Str)) = false) (hcn : (n == ("__classdict__" : Str)) = false) (h0 : ∀ f : Addr, (L2.start Ng [V.ref f])[0]? = some (some (V.ref f)))
    (hsw : ∀ L : Addr, swapsWith (.Call (.Name a p1) [] [] p2) none p3.line (envOfC x sg L g cdg) = pure false) (hat : ∀ L : Addr, attributeBase (.Name n p5) f (envOfC x sg L g cdg) (eval (.Name n p5) (envOfC x sg L g cdg)) = eval (.Name n p5) (envOfC x sg L g cdg)) 
    (hst : ∀ L : Addr, starEach [.Attribute (.Name n p5) f p6] (envOfC x sg L g cdg) = (false, eval (.Attribute (.Name n p5) f p6) (envOfC x sg L g cdg)) :: starEach [] (envOfC x sg L g cdg)) :
    LamX.GivesTo X Ng x sg g cdg [.Try [.Expr (.Call (.Name a p1) [] [] p2) p3] [.ExceptHandler (some (.Name e p4)) (some n) [.Return (some (.Tuple [.Attribute (.Name n p5) f p6] k1 p7)) p8] p9] [] [] p10, .Return (some (.Tuple [] k2 p11)) p12] a q (TTerr C f) := by
  intro l c' s H Q tl act hc h
  have hgl : Gl (cxOf C8.CX0 X.prog X.w X.K X.mg X.base Ng x sg g cdg X.A X.stack s H C8.E0).nox e := hge
  refine ⟨_, pss_cons (ps_try_as (X := (cxOf C8.CX0 X.prog X.w X.K X.mg X.base Ng x sg g cdg X.A X.stack s H C8.E0).nox) (c := .ref C) (i := i)
      (tb := fun W D σ H => ∃ Ech : XK, (∀ cls d σ' H', Ech cls d H' → σ'.length = Ng.length → W cls d σ' H') ∧ σ[0]? = some (some (.ref l)) ∧ H c' = some (LamX.CodeO c' q) ∧ tl Ech H fun _ H' => D.nx σ H')
      (ts := fun a cls d => tRet (tTup (tCons (tXf a cls d C f (tVar i)) tNil))) (Wout := fun _ _ _ _ => False)
      rfl rfl hN hi (hkn _) ⟨hgl, hde, .inl T.gC⟩ LamX.takes0 (fun W pn xe tk _ => ?_)
      (fun a oe cls d pn hz hfi => pss_one (ps_ret (pe_tup (pa_cons (pe_xf (xfB_ok T.xf) (T.no f hf) hz hfi (pe_var hi (.inl hln) hdn hcn) (hat _)) pa_nil (hst _))))))
    (pss_one (ps_ret (pe_tup pa_nil))), ?_⟩
  · refine ⟨fun pins s' σ H' D I h' => ?_⟩
    obtain ⟨Ech, hW, h1, h2, h3⟩ := h'
    have hp := act _ pn xe Ech p1 p2 (Takes.len tk) hW
    have hq := pss_one (ps_expr hp (hsw _))
    exact hq.run pins s' σ H' D I ⟨h1, h2, h3⟩
  · refine ⟨fun cls d H' => cls = .ref C ∧ ∃ dd fl v, d = some dd ∧ H' dd = some (.xd fl) ∧ fl.lookup f = some v ∧ ∀ p, H' p = none → Q (.ref p) (upd H' p (.tup [v])), fun cls d σ' H' hE hlen => ?_, h0 l, hc, h⟩
    obtain ⟨rfl, dd, fl, v, rfl, e1, e2, e3⟩ := hE
    refine ⟨true, T.te, fun _ b hb => ?_, fun z => nomatch z⟩
    refine ⟨.ref b, List.getElem?_set_self (by rw [hlen]; exact (List.getElem?_eq_some_iff.mp hi).1), rfl, rfl, dd, fl, v, rfl, e1, e2, ?_, e3⟩
    show (1 : Nat) ≤ sizeLine
    decide
/-- the tables' heap: all else stays -/
theorem Rel.extN {K : PySem.W.Frag} {c : Act} {G H H1 : Hp} {σ : L2.St} {s : S} {P : Addr} {q : Str} (r : Rel K c G H σ s) (hT : c.T = [(P, q)]) (e : LamX.ExtN H H1) (t : LamX.Tabs [(P, q)] H1) : Rel K c G H1 σ s := by
  have hm : (P, q) ∈ c.T := by rw [hT]; exact List.mem_singleton.mpr rfl
  obtain ⟨_, _, _, nh⟩ := r.b.tb _ hm
  refine ⟨⟨fun a o ea => e a o (r.b.sub a o ea) fun ps z => r.b.ng a ps (by rw [ea, z]), e _ _ r.b.wl (fun _ z => nomatch z), r.b.wf, r.b.scr, r.b.g0, fun a o ea n => e a o (r.b.h0 a o ea n) fun ps z => nh a ps (by rw [ea, z]), r.b.n0, fun p hp => ⟨t p (by rw [← hT]; exact hp), (r.b.tb p hp).2⟩, r.b.ng⟩, r.len, fun i en q' => ?_, r.sep⟩
  obtain ⟨v, hv, he⟩ := r.slot i en q'
  exact ⟨v, hv, he.conv (Same.refl _) rfl rfl rfl fun bb o ⟨p', ho, ev, h1, h2, h3, h4, h5⟩ => ⟨p', ho, ev, h1, h2, h3, e p' ho h4 (fun ps z => by have := h5.pl; rw [z] at this; cases this), h5⟩⟩
/-- x(lambda: e), x as in err_gives -/
def fErr (P : Addr) (q : Str) (k : Nat) (f : FE) : FE := fun s => match s.ρ[(0 : Nat)]? with
  | some (some (.tab P' q')) => if P' = P ∧ q' = q then (match f s with
    | .ok _ s' => .ok (.tuple []) s'
    | .exc k' as s' => if k' = k then .ok (.tuple [fldD 0 as]) s' else .bad
    | .bad => .bad) else .bad
  | _ => .bad
theorem err_read {X : Cx} {ex : ExT} {W : WX} {P C : Addr} {q fn : Str} {fs : List Str} {k : Nat} {f : FE} (hex : ex k = some (C, fs)) (hfn : fs[0]? = some fn) {σ : L2.St} {H : Hp} {Q : VK} (h : tE X.K ex W (fErr P q k f) σ H Q) :
    LamX.tLam [(P, q)] (TTerr C fn) (fun E => tE X.K ex (fun cls d _ H => E cls d H) f) σ H Q := by
  obtain ⟨c, G, s, r, h⟩ := h
  unfold fErr at h
  split at h
  · rename_i P' q' h0
    split at h
    case isFalse => exact h.elim
    case isTrue hpq =>
      obtain ⟨rfl, rfl⟩ := hpq
      obtain ⟨_, _, hT⟩ := r.slot 0 _ h0
      have hT : c.T = [(P', q')] := hT
      refine ⟨fun p hp => (r.b.tb p (by rw [hT]; exact hp)).1, fun H1 eN T1 => ?_⟩
      refine ⟨c, G, s, r.extN hT eN T1, ?_⟩
      cases z : f s with
      | bad => rw [z] at h; exact h.elim
      | ok d s' =>
        rw [z] at h
        intro G2 H2 e2 r2 v hv
        refine ⟨Nat.zero_le _, fun p hp => ?_⟩
        obtain ⟨q1, q2, q3⟩ := r2.newTup hp .nil
        exact h _ _ (e2.trans q1) q2 _ q3
      | exc k' as s' =>
        rw [z] at h
        dsimp only at h
        split at h
        case isFalse => exact h.elim
        case isTrue hk =>
          subst hk
          intro cls dx G2 H2 e2 r2 E
          obtain ⟨C', names, d, fl, vs, e1, ec, ed, eh, e5, e6⟩ := E
          rw [hex] at e1
          cases e1
          have q5 : (fs.map fun n => fl.lookup n)[0]? = (vs.map some)[0]? := by rw [e5]
          rw [List.getElem?_map, hfn, List.getElem?_map] at q5
          cases hv : vs[0]? with
          | none => rw [hv] at q5; cases q5
          | some v =>
            rw [hv] at q5
            have q6 : fl.lookup fn = some v := by simpa using q5
            obtain ⟨d2, h1, h2⟩ := e6.getV hv
            have h3 : Dp X.K G2 v (fldD 0 as) := by
              unfold fldD
              rw [h1]
              exact h2
            refine ⟨ec, d, fl, v, ed, eh, q6, fun p hp => ?_⟩
            obtain ⟨q1, q2, q3⟩ := r2.newTup hp (.cons h3 .nil)
            exact h _ _ (e2.trans q1) q2 _ q3
  · exact h.elim
def lamQ : Str := ("law" : Str) ++ ".<locals>." ++ "<lambda>"
/-- x(lambda: e): x a def as in err_gives, st its text -/
theorem eErr {X : Cx} {ex : ExT} {W : WX} {tb c g C fI : Addr} {fd : FuncData} {st : Stmt} {Ng fs : List Str} {x a e n fn q : Str} {k j i k1 k2 : Nat} {f : FE} {params : Arguments} {body : Expr} {scope : Scope} {p lpos pos p1 p2 p3 p4 p5 p6 p7 p8 p9 p10 p11 p12 : Pos}
    (F : Fun X.K x x st g fd) (hm : X.mg x = some (.ref g)) (hb : L2.Binds X.K fd [a] []) (Sg : FnScope Ng [a] (defScope st)) (T : XCls X.K X.mg e C fI fs) (hex : ex k = some (C, fs)) (TB : LamX.TabB X.base X.mg c tb) (hcode : X.env.code = .ref c) (hr : Room (j + 2) X.A)
    (hst : defBody st = [.Try [.Expr (.Call (.Name a p1) [] [] p2) p3] [.ExceptHandler (some (.Name e p4)) (some n) [.Return (some (.Tuple [.Attribute (.Name n p5) fn p6] k1 p7)) p8] p9] [] [] p10, .Return (some (.Tuple [] k2 p11)) p12])
    (L : LamX.LamS X.env.scope scope)
    (hbody : ∀ (A : Around) (outer : List Env) (s : Shared) (H : Hp) (E : XK) (l c' : Addr), Room j (A.deeper (LamX.lamEnv X scope s.heap.objs.size l c')) → PE (LamX.lamCx X A outer s H E scope l c') body (tE X.K ex (fun cls d _ H => E cls d H) f))
    (hi : Ng[i]? = some n) (hg : Gl X x := by rfl) (hfn : fs[0]? = some fn := by rfl) (hNg : Ng[0]? = some a := by rfl) (hva : Vis (defScope st) a := by first | exact Or.inl rfl | exact Or.inr (Or.inl rfl) | exact Or.inr (Or.inr rfl))
    (hge : (defScope st).names.lookup e = some .globalImplicit := by rfl) (hln : (defScope st).names.lookup n = some .local := by rfl) (hkn : ∀ (L : Addr) (cdg : Value), (envOfC x (defScope st) L g cdg).kindOf n = some .local := by intro _ _; rfl)
    (hsw : ∀ (L : Addr) (cdg : Value), swapsWith (.Call (.Name a p1) [] [] p2) none p3.line (envOfC x (defScope st) L g cdg) = pure false := by intro _ _; rfl)
    (hat : ∀ (L : Addr) (cdg : Value), attributeBase (.Name n p5) fn (envOfC x (defScope st) L g cdg) (eval (.Name n p5) (envOfC x (defScope st) L g cdg)) = eval (.Name n p5) (envOfC x (defScope st) L g cdg) := by intro _ _; rfl)
    (hsa : ∀ (L : Addr) (cdg : Value), starEach [.Attribute (.Name n p5) fn p6] (envOfC x (defScope st) L g cdg) = (false, eval (.Attribute (.Name n p5) fn p6) (envOfC x (defScope st) L g cdg)) :: starEach [] (envOfC x (defScope st) L g cdg) := by intro _ _; rfl)
    (h0 : ∀ l : Addr, (L2.start Ng [V.ref l])[0]? = some (some (V.ref l)) := by intro _; rfl)
    (hq : q = X.env.qual ++ "<lambda>" := by rfl) (hdef : defaultsOf params X.env = ([], []) := by rfl) (hbind : ∀ (q : Str) (cl : List (Str × Addr)) (pm cv ctv : Value), bindArgs (PySem.W.kla_fn "<lambda>" q params body scope cl pm cv ctv) ⟨[], []⟩ = pure [] := by intro _ _ _ _ _; rfl)
    (hde : (e == ("__debug__" : Str)) = false := by decide) (hdn : (n == ("__debug__" : Str)) = false := by decide) (hcn : (n == ("__classdict__" : Str)) = false := by decide) (hdb : (x == ("__debug__" : Str)) = false := by decide) (hd : (a == ("__debug__" : Str)) = false := by decide) (hcd : (a == ("__classdict__" : Str)) = false := by decide) :
    PE X (.Call (.Name x p) [.Lambda params body scope lpos] [] pos) (tE X.K ex W (fErr tb q k f)) := by
  obtain ⟨oc, od, kV, doc, pm, an, cdv, ct, osl, rfl, lk, hcg⟩ := F.ex
  refine PE.imp (LamX.pe_lamcall (T := [(tb, q)]) (TT := TTerr C fn) (t := fun E => tE X.K ex (fun cls d _ H => E cls d H) f) (k := j) hg hm F.kp lk hcg hb Sg hNg hva ?_ TB hcode (by rw [hq]; exact List.mem_singleton.mpr rfl) (fun p hp _ => by rw [List.mem_singleton.mp hp]; exact hq) hr L hdef hbind hbody hdb hd hcd) fun σ H Q h => err_read hex hfn h
  rw [hst]
  exact err_gives T (List.mem_of_getElem? hfn) hge hde Sg.nd hi hln (fun L => hkn L _) hdn hcn h0 (fun L => hsw L _) (fun L => hat L _) (fun L => hsa L _)
/-! ### the law with a table -/
def spLawT (K : PySem.W.Frag) (tb : Addr) : Sp := fun vs H Q _ => ∃ (a : Addr) (ns : List Int), vs = [.ref a] ∧ SqL K H a (ns.map V.int) ∧ ns.length ≤ 63 ∧ H tb = some (.tbl #[]) ∧ ∀ H', Q (.bl true) H'
def lawST (N : Nat) (tb : Addr) (ns : List Int) : S := ⟨some (.tab tb lamQ) :: some .hdl :: List.replicate (N - 2) none, ⟨ns, 0⟩⟩
section
variable {P : Program} {w : World} {K : PySem.W.Frag} {mg : Str → Option Value} {base : Heap} {ex : ExT}
theorem lawDT {x : Str} {st st1 : Stmt} {rest : List Stmt} {f c tb : Addr} {fd : FuncData} {N : List Str} {k : Nat} {fb : FO} (F : Fun K "law" "law" st f fd) (hc : fd.code = .ref c) (Sc : FnScope N [x] (defScope st)) (hN : 2 ≤ N.length) (hbody : defBody st = st1 :: rest)
    (b1 : ∀ (A : Around) (outer : List Env) (s : Shared) (H : Hp) (E : XK), PS (cxOf (L2.CX P w) P w K mg base N "law" (defScope st) f (.ref c) A outer s H E) st1 (tMkD K))
    (body : ∀ (A : Around) (outer : List Env) (s : Shared) (H : Hp) (E : XK), Room k (A.deeper (envOfC "law" (defScope st) s.heap.objs.size f (.ref c))) →
      PSs (cxOf (L2.CX P w) P w K mg base N "law" (defScope st) f (.ref c) A outer s H E) rest (tS K ex (fun cls d _ H => E cls d H) fb))
    (good : ∀ ns : List Int, ns.length ≤ 63 → ∃ s', fb (lawST N.length tb ns) = .rt (.bool true) s') : FnOk P w K mg base (L2.CX P w) (k + 1) f fd [x] (spLawT K tb) := by
  obtain ⟨oc, od, kV, doc, pm, an, cdv, ct, osl, rfl, lk, hcd⟩ := F.ex
  have hc : cdv = .ref c := hc
  subst hc
  refine fn_of lk hcd Sc (fun vs H Q E hh => ?_) fun A outer s H vs Q E hr hh => ⟨_, by rw [hbody]; exact pss_cons (b1 A outer s H E) (body A outer s H E hr), ?_⟩
  · obtain ⟨a, ns, rfl, _⟩ := hh
    rfl
  · obtain ⟨a, ns, rfl, hS, hlen, hT, q⟩ := hh
    have e0 : L2.start N [V.ref a] = some (V.ref a) :: List.replicate (N.length - 1) none := rfl
    rw [e0]
    obtain ⟨m, hm⟩ : ∃ m, N.length = m + 2 := ⟨N.length - 2, by omega⟩
    rw [show N.length - 1 = m + 1 by omega, List.replicate_succ]
    refine ⟨.ref a, rfl, 63, rfl, a, ns.map V.int, rfl, hS, fun p1 hp1 => ?_⟩
    rw [cut63 hlen]
    refine ⟨by show 3 ≤ sizeLine; decide, fun p2 hp2 => ?_⟩
    have ne : p2 ≠ p1 := fun z => by
      rw [z, upd_same] at hp2
      cases hp2
    have nt : tb ≠ p1 := fun z => by rw [z, hp1] at hT; cases hT
    obtain ⟨s', hg⟩ := good ns hlen
    rw [hm] at hg
    refine ⟨⟨p2, p1, upd (fun _ => none) p1 (.lst (ns.map V.int)), fun _ => none, 0, [(tb, lamQ)]⟩, upd (fun _ => none) p1 (.lst (ns.map V.int)), lawST (m + 2) tb ns, ⟨⟨?_, upd_same, ?_, SqL.of upd_same, Same.refl _, fun _ _ e => (nomatch e), fun _ _ e => (nomatch e), fun q hq => ?_, fun b ps z => ?_⟩, ?_, ?_, ?_⟩, ?_⟩
    · intro b o e
      by_cases hb : b = p1
      · subst hb
        rw [upd_same] at e
        rw [upd_ne (Ne.symm ne), upd_same]
        exact e
      · rw [upd_ne hb] at e
        cases e
    · show upd (fun _ => none) p1 _ p2 = none
      rw [upd_ne ne]
    · have hq := List.mem_singleton.mp hq
      subst hq
      exact ⟨TabS.new (TabS.new (LamX.TabS.nil hT) hp1) hp2, by rw [upd_ne nt], rfl, fun _ _ z => (nomatch z)⟩
    · by_cases hb : b = p1
      · rw [hb, upd_same] at z
        cases z
      · rw [upd_ne hb] at z
        cases z
    · simp [lawST]
    · intro i e h
      match i, h with
      | 0, h =>
        have h : Ent.tab tb lamQ = e := by simpa [lawST] using h
        subst h
        exact ⟨.ref a, rfl, rfl⟩
      | 1, h =>
        have h : Ent.hdl = e := by simpa [lawST] using h
        subst h
        exact ⟨.ref p2, rfl, rfl⟩
      | i + 2, h =>
        have h : (List.replicate m (none : Option Ent))[i]? = some (some e) := h
        have := List.mem_of_getElem? h
        rw [List.mem_replicate] at this
        cases this.2
    · intro i j v n ⟨e, h, bb⟩
      match i, h with
      | 0, h =>
        have h : Ent.tab tb lamQ = e := by simpa [lawST] using h
        rw [← h] at bb
        cases bb
      | 1, h =>
        have h : Ent.hdl = e := by simpa [lawST] using h
        rw [← h] at bb
        cases bb
      | i + 2, h =>
        have h : (List.replicate m (none : Option Ent))[i]? = some (some e) := h
        have := List.mem_of_getElem? h
        rw [List.mem_replicate] at this
        cases this.2
    · rw [hg]
      intro v σ' G' H' _ _ hv
      cases hv
      exact q H'
end
/-- a new object's making that only fails -/
def fNoN (f : S → R Ent) : FE := fun s => match f s with
  | .exc k as s' => .exc k as s'
  | _ => .bad
theorem eNoN {X : Cx} {ex : ExT} {W : WX} {e : Expr} {f : S → R Ent} (h : PE X e (tN X.K ex W f)) : PE X e (tE X.K ex W (fNoN f)) := PE.imp h fun σ H Q ⟨c, G, s, r, q⟩ => ⟨c, G, s, r, by
  unfold fNoN at q
  cases z : f s with
  | ok d s' => rw [z] at q; exact q.elim
  | bad => rw [z] at q; exact q.elim
  | exc k as s' => rw [z] at q; exact q⟩
/-! ### a, b = e1, e2 by way of a tuple, some of them new objects -/
theorem EntsOk.alloc {K : PySem.W.Frag} {c : Act} {G H : Hp} {σ : L2.St} {s : S} {p : Addr} {o : HO} (hp : H p = none) : ∀ {vs : List V} {es : List Ent}, EntsOk K c G H σ s vs es → EntsOk K c G (upd H p o) σ s vs es
  | [], [], _ => trivial
  | [], _ :: _, h => h.elim
  | _ :: _, [], h => h.elim
  | _ :: _, _ :: _, ⟨h1, h2, h3⟩ => ⟨h1.up (Same.refl _) fun q ho e1 e2 _ _ _ => ⟨(upd_ne (ne_of_none e1 hp)).trans e1, e2⟩, h2, EntsOk.alloc hp h3⟩
theorem kMixT2 {X : Cx} {ex : ExT} {W : WX} {i0 i1 : Nat} {a b : Expr} {pos : Pos} {x y : Str} {px py pt : Pos} {kt k2 pt2} {fa : S → R (List Ent)} (hN : X.N.Nodup) (ha : PA X [a, b] (tX X.K ex W fa)) (hc : X.calm = true := by rfl) (hi : X.N[i0]? = some x := by rfl) (hj : X.N[i1]? = some y := by rfl)
    (hx : Loc X.env.scope x := by first | exact Or.inl rfl | exact Or.inr rfl) (hy : Loc X.env.scope y := by first | exact Or.inl rfl | exact Or.inr rfl) (hfx : X.fn x = true ∨ X.env.scope.names.lookup x = some .local := by first | exact .inl rfl | exact .inr rfl) (hfy : X.fn y = true ∨ X.env.scope.names.lookup y = some .local := by first | exact .inl rfl | exact .inr rfl)
    (hs : swapsWithSole [.Tuple [.Name x px, .Name y py] kt pt] (.Tuple [a, b] k2 pt2) pos.line X.env = pure false := by rfl) (hw : swappedStores [.Tuple [.Name x px, .Name y py] kt pt] (.Tuple [a, b] k2 pt2) X.env = pure none := by rfl)
    (h1 : (assignEach [.Tuple [.Name x px, .Name y py] kt pt] X.env).map (·.2) = [assign (.Tuple [.Name x px, .Name y py] kt pt) X.env] := by rfl)
    (g1 : (assignEach [.Name x px, .Name y py] X.env).map (·.2) = assign (.Name x px) X.env :: (assignEach [.Name y py] X.env).map (·.2) := by rfl) (g2 : (assignEach [.Name y py] X.env).map (·.2) = assign (.Name y py) X.env :: (assignEach [] X.env).map (·.2) := by rfl)
    (hn : (assignEach [.Name x px, .Name y py] X.env).length = 2 := by rfl) (hst : (assignEach [.Name x px, .Name y py] X.env).findIdx? (·.1) = none := by rfl) :
    PS X (.Assign [.Tuple [.Name x px, .Name y py] kt pt] (.Tuple [a, b] k2 pt2) pos) (tS X.K ex W (sMix [i0, i1] fa)) :=
  PS.imp (ps_asg (pe_tup ha) (pg_tup hc (pgs_cons (pg_name hN hi hx hfx) (pgs_cons (pg_name hN hj hy hfy) pgs_nil g2) g1) hn hst) hs hw h1) fun En σ H ⟨c, G, s, r, h⟩ => by
    refine ⟨c, G, s, r, h.fromR fun es s1 G1 H1 e1 r1 h1 vs hv => ?_⟩
    have hl := hv.len
    match es, h1 with
    | [d1, d2], h1 =>
      match vs, hl, hv with
      | [v1, v2], _, hv =>
        refine ⟨show (2 : Nat) ≤ sizeLine by decide, fun p hp => ⟨p, [v1, v2], rfl, SqT.of upd_same, rfl, v1, [v2], rfl, v2, [], rfl, rfl, ?_⟩⟩
        obtain ⟨r2, hv2⟩ := (EntsOk.alloc (o := .tup [v1, v2]) hp hv).put (i := i0) (r1.allocOwn hp)
        obtain ⟨r3, _⟩ := hv2.put (i := i1) r2
        exact h1 _ G1 _ (Same.refl _) r3
    | [], h1 => exact h1.elim
    | [_], h1 => exact h1.elim
    | _ :: _ :: _ :: _, h1 => exact h1.elim
end PD
/-! PD21: name[i] += e, pop, extend, dicts: in, pop, sorted; n.bit_length(). -/
namespace PD
open PySem PySem.Spec L2
open PyProof.Rows hiding St
variable [WI]
/-! ### name[i] += e, a list of its own -/
def rGetN (K : PySem.W.Frag) : V → V → Hp → VK → Prop := fun x y H Q => ∃ p xs i v, x = .ref p ∧ y = .int i ∧ SqL K H p xs ∧ 0 ≤ i ∧ xs[i.toNat]? = some v ∧ Q v H
theorem get_listN {X : Cx} : PGet X (rGetN X.K) := by
  intro pins s σ H o i ov iv Q I ro ri h
  obtain ⟨p, xs, k, z, rfl, rfl, hq, hk, he, q⟩ := h
  cases ro
  obtain ⟨t, rfl⟩ := ri
  obtain ⟨its, r, pl, hz⟩ := I.list hq
  obtain ⟨w, ew, rw'⟩ := r.get he
  have hl := r.length
  have hlt : k.toNat < xs.length := (List.getElem?_eq_some_iff.mp he).1
  exact wpAny_getItem_list pl.isList hk (by have := line63; omega) (by simpa using ew) ⟨z, H, I, rw', q⟩
def sAugIx (i : Nat) (g f : FE) : FO := fun s => if (look s i).isSome = true then (g s).stm fun j s => match s.ρ[i]?, j with
    | some (some (.own ds)), .int k => if 0 ≤ k then (match ds[k.toNat]? with
      | some (.int a) => (f s).stm fun y s => (match s.ρ[i]?, y with
        | some (some (.own ds')), .int b => if k.toNat < ds'.length then .nx (s.put i (.own (ds'.set k.toNat (.int (a + b))))) else .bad
        | _, _ => .bad)
      | _ => .bad) else .bad
    | _, _ => .bad
  else .bad
theorem kAugIx (i : Nat) {X : Cx} {ex : ExT} {W : WX} {x : Str} {ix e : Expr} {f g : FE} {p spos pos : Pos} (hg : PE X ix (tE X.K ex W g)) (he : PE X e (tE X.K ex W f)) (hN : X.N[i]? = some x := by rfl) (hv : Vis X.env.scope x := by first | exact Or.inl rfl | exact Or.inr (Or.inl rfl) | exact Or.inr (Or.inr rfl))
    (hd : (x == ("__debug__" : Str)) = false := by decide) (hcd : (x == ("__classdict__" : Str)) = false := by decide)
    (ha : ∀ ov iv new, augStore ix ov iv new = (do holding [new, ov, iv] (setItem ov iv new); release [new, ov, iv] []; pure .next) := by intros; rfl) :
    PS X (.AugAssign (.Subscript (.Name x p) ix spos) .Add e pos) (tS X.K ex W (sAugIx i g f)) :=
  PS.imp (ps_augS (pe_var hN hv hd hcd) hg get_listN he ip_add set_list ha) fun En σ H ⟨c, G, s, r, h⟩ => by
    have h : PostO X.K ex W c G En (if (look s i).isSome = true then (g s).stm fun j s => match s.ρ[i]?, j with
        | some (some (.own ds)), .int k => if 0 ≤ k then (match ds[k.toNat]? with
          | some (.int a) => (f s).stm fun y s => (match s.ρ[i]?, y with
            | some (some (.own ds')), .int b => if k.toNat < ds'.length then .nx (s.put i (.own (ds'.set k.toNat (.int (a + b))))) else .bad
            | _, _ => .bad)
          | _ => .bad) else .bad
        | _, _ => .bad
      else .bad) := h
    by_cases hl : (look s i).isSome = true
    · rw [if_pos hl] at h
      obtain ⟨d0, hd0⟩ := Option.isSome_iff_exists.mp hl
      obtain ⟨u, hu, _⟩ := r.look hd0
      refine ⟨u, hu, soE r h fun j s1 G1 H1 v1 e1 r1 hv1 h1 => ?_⟩
      split at h1
      · rename_i ds k hds
        cases hv1
        obtain ⟨q, vs, eq, hdd, r3, b3⟩ := r1.takeOwn hds
        rw [hu] at eq
        cases eq
        by_cases hk : 0 ≤ k
        · rw [if_pos hk] at h1
          split at h1
          · rename_i a ha'
            obtain ⟨w, hw, hwd⟩ := hdd.get ha'
            cases hwd
            refine ⟨q, vs, k, .int a, rfl, rfl, SqL.of b3.at_, hk, hw, ?_⟩
            refine soE r1 h1 fun y s2 G2 H2 v2 e2 r2 hv2 h2 => ?_
            split at h2
            · rename_i ds' b hds'
              cases hv2
              obtain ⟨q', vs', eq', hdd', r4, b4⟩ := r2.takeOwn hds'
              rw [hu] at eq'
              cases eq'
              by_cases hlt : k.toNat < ds'.length
              · rw [if_pos hlt] at h2
                refine ⟨a, b, rfl, rfl, q, vs', k, k.toNat, rfl, rfl, b4.at_, ?_, ?_⟩
                · unfold ixN
                  rw [if_pos hk, if_pos (by rw [hdd'.len]; omega)]
                · exact h2 σ G2 _ (Same.refl _) (r2.setOwn hds' hu b4.at_ (hdd'.setI (.int (a + b)) k.toNat))
              · rw [if_neg hlt] at h2
                exact h2.elim
            · exact h2.elim
          · exact h1.elim
        · rw [if_neg hk] at h1
          exact h1.elim
      · exact h1.elim
    · rw [if_neg hl] at h
      exact h.elim
/-! ### dicts asked -/
def ikeys : List (Key × D) → Option (List Int)
  | [] => some []
  | (.inl i, _) :: r => (ikeys r).map fun l => i :: l
  | _ :: _ => none
theorem ikeys_eq : ∀ {m : List (Key × D)} {ns : List Int}, ikeys m = some ns → m.map (·.1) = ns.map Sum.inl
  | [], ns, h => by cases h; rfl
  | (.inl i, d) :: r, ns, h => by
    unfold ikeys at h
    cases z : ikeys r with
    | none => rw [z] at h; cases h
    | some l =>
      rw [z] at h
      cases h
      rw [List.map_cons, List.map_cons, ikeys_eq z]
  | (.inr _, _) :: _, ns, h => by cases h
theorem PrAll.keys {K : PySem.W.Frag} {G : Hp} {l : List (Key × V)} {m : List (Key × D)} (h : PrAll K G l m) : l.map (·.1) = m.map (·.1) := by
  induction h with
  | nil => rfl
  | cons _ _ ih => rw [List.map_cons, List.map_cons, ih]
/-- sorted(name), a dict of ints -/
def fSortD (i : Nat) : FA := fun s => match look s i with
  | some (.dict es) => R.of ((kesD es).bind fun m => (ikeys m).bind fun ns => if ns.length < 64 then some ((sortI ns).map PyData.int) else none) s
  | _ => .bad
section
variable {X : Cx} {ex : ExT} {W : WX}
theorem oSortD (i : Nat) {x : Str} {p px pos : Pos} (hc : X.calm = true) (hm : X.mg "sorted" = none) (hN : X.N[i]? = some x := by rfl) (hv : Vis X.env.scope x := by first | exact Or.inl rfl | exact Or.inr (Or.inl rfl) | exact Or.inr (Or.inr rfl))
    (hd : (x == ("__debug__" : Str)) = false := by decide) (hcd : (x == ("__classdict__" : Str)) = false := by decide) (hg : Gl X "sorted" := by rfl) (hs : starEach [.Name x px] X.env = (false, eval (.Name x px) X.env) :: starEach [] X.env := by rfl) (hpl : (backTo pos (starEach [] X.env)).any (·.1) = false := by rfl) :
    PE X (.Call (.Name "sorted" p) [.Name x px] [] pos) (tO X.K ex W (fSortD i)) :=
  PE.imp (pe_callB (call_sortedDI hc) hg hm (by decide +kernel) (pa_cons (pe_var hN hv hd hcd) pa_nil hs) (he := hs) (hpl := hpl)) fun σ H Q ⟨c, G, s, r, q⟩ => by
    unfold fSortD at q
    split at q
    · rename_i es z
      obtain ⟨p', kvs, m, q1, q2, q3, q4⟩ := r.lookD z
      rw [q3, Option.bind_some] at q
      cases zk : ikeys m with
      | none => rw [zk] at q; exact q.elim
      | some ns =>
        rw [zk, Option.bind_some] at q
        by_cases hl : ns.length < 64
        · rw [if_pos hl] at q
          refine ⟨_, q1, p', kvs, ns, rfl, .inl q2, by rw [q4.keys, ikeys_eq zk], hl, fun ns' l pm so hl => ?_⟩
          have e : ns' = sortI ns := sorted_unique (pm.trans (sortI_perm ns).symm) so (sortI_sorted ns)
          subst e
          obtain ⟨r2, hf⟩ := r.newOwn hl (DpAll.ints _)
          exact q.val' r2 _ hf
        · rw [if_neg hl] at q
          exact q.elim
    · exact q.elim
/-- e in name, e not in name, the name a dict -/
def fDin (neg : Bool) (i : Nat) (f : FE) : FE := fun s => (f s).bind fun d s => match look s i, kD d with
  | some (.dict es), some k => R.of ((kesD es).map fun m => .bool (neg ^^ (lkD m k).isSome)) s
  | _, _ => .bad
theorem din_read {neg : Bool} {i : Nat} {f : FE} {σ : L2.St} {H : Hp} {Q : VK} (h : tE X.K ex W (fDin neg i f) σ H Q) : tE X.K ex W f σ H fun y H1 => tVar i σ H1 fun x H2 => ∃ a o, x = .ref a ∧ DGet H2 a y o ∧ Q (.bl (neg ^^ o.isSome)) H2 := by
  obtain ⟨c, G, s, r, q⟩ := h
  refine inE r q fun d s1 G1 H1 v e1 r1 hv q1 => ?_
  split at q1
  · rename_i es k z kz
    obtain ⟨p', kvs, m, q2, q3, q4, q5⟩ := r1.lookD z
    rw [q4] at q1
    have hku := kV_of hv kz
    subst hku
    refine ⟨_, q2, p', valV kvs k, rfl, .inl ⟨kvs, k, .inl q3, rfl, rfl⟩, ?_⟩
    have e : (valV kvs k).isSome = (lkD m k).isSome := by
      cases y : lkD m k with
      | none =>
        rw [(q5.find k).2 y]
        rfl
      | some dd =>
        obtain ⟨w, hw, _⟩ := (q5.find k).1 dd y
        rw [hw]
        rfl
    rw [e]
    exact q1.val r1 (.bl _)
  · exact q1.elim
theorem tDinE (i : Nat) {k : Nat} {x : Str} {e : Expr} {f : FE} {px pos : Pos} (hr : Room k X.A) (he : PE X e (tE X.K ex W f)) (hN : X.N[i]? = some x := by rfl) (hv : Vis X.env.scope x := by first | exact Or.inl rfl | exact Or.inr (Or.inl rfl) | exact Or.inr (Or.inr rfl))
    (hd : (x == ("__debug__" : Str)) = false := by decide) (hcd : (x == ("__classdict__" : Str)) = false := by decide) (hb : behindInMarks .In (.Name x px) = false := by rfl) : PT X (.Compare e [.In] [.Name x px] pos) (tT X.K ex W (tVal (fDin false i f))) :=
  PT.imp (pt_cmp (pc_din (hu1 hr) he (pe_var hN hv hd hcd)) hb) fun σ H Q h => by
    have h := din_read (toTest h)
    simp only [Bool.false_xor] at h
    exact h
theorem tDninE (i : Nat) {k : Nat} {x : Str} {e : Expr} {f : FE} {px pos : Pos} (hr : Room k X.A) (he : PE X e (tE X.K ex W f)) (hN : X.N[i]? = some x := by rfl) (hv : Vis X.env.scope x := by first | exact Or.inl rfl | exact Or.inr (Or.inl rfl) | exact Or.inr (Or.inr rfl))
    (hd : (x == ("__debug__" : Str)) = false := by decide) (hcd : (x == ("__classdict__" : Str)) = false := by decide) (hb : behindInMarks .NotIn (.Name x px) = false := by rfl) : PT X (.Compare e [.NotIn] [.Name x px] pos) (tT X.K ex W (tVal (fDin true i f))) :=
  PT.imp (pt_cmp (pc_dnotin (hu1 hr) he (pe_var hN hv hd hcd)) hb) fun σ H Q h => by
    have h := din_read (toTest h)
    simp only [Bool.true_xor] at h
    exact h
end
/-! ### dicts changed -/
def dropKD (es : List (Key × D)) (k : Key) : List (Key × D) := es.filter fun p => decide (p.1 ≠ k)
theorem PrAll.drop {K : PySem.W.Frag} {G : Hp} {l : List (Key × V)} {m : List (Key × D)} (h : PrAll K G l m) (k : Key) : PrAll K G (L2.dropK l k) (dropKD m k) := by
  unfold L2.dropK dropKD
  induction h with
  | nil => exact .nil
  | @cons k' v d l m h1 h2 ih =>
    rw [List.filter_cons, List.filter_cons]
    by_cases hk : k' = k
    · simp only [hk, ne_eq, not_true, decide_false, Bool.false_eq_true, if_false]
      exact ih
    · simp only [hk, ne_eq, not_false_iff, decide_true, if_true]
      exact .cons h1 ih
/-- name.pop(e), the name a dict of its own -/
def sDPop (i : Nat) (f : FE) : FO := fun s => if isDic s i = true then (f s).stm fun d s => match s.ρ[i]?, kD d with
    | some (some (.dic es)), some k => if (lkD es k).isSome = true then .nx (s.put i (.dic (dropKD es k))) else .bad
    | _, _ => .bad
  else .bad
theorem isDic_at {s : S} {i : Nat} (h : isDic s i = true) : ∃ es, s.ρ[i]? = some (some (.dic es)) := by
  unfold isDic at h
  split at h
  · exact ⟨_, by assumption⟩
  · cases h
theorem kDPop (i : Nat) {X : Cx} {ex : ExT} {W : WX} {x : Str} {e : Expr} {f : FE} {p apos pos pos2 : Pos} (he : PE X e (tE X.K ex W f)) (hN : X.N[i]? = some x := by rfl) (hv : Vis X.env.scope x := by first | exact Or.inl rfl | exact Or.inr (Or.inl rfl) | exact Or.inr (Or.inr rfl))
    (hd : (x == ("__debug__" : Str)) = false := by decide) (hcd : (x == ("__classdict__" : Str)) = false := by decide) (m : M1 X (.Name x p) "pop" apos e pos := by exact ⟨rfl, rfl, rfl, rfl⟩)
    (hsw : swapsWith (.Call (.Attribute (.Name x p) "pop" apos) [e] [] pos) none pos2.line X.env = pure false := by rfl) :
    PS X (.Expr (.Call (.Attribute (.Name x p) "pop" apos) [e] [] pos) pos2) (tS X.K ex W (sDPop i f)) :=
  PS.imp (ps_expr (pe_dpop1 (pe_var hN hv hd hcd) he m) hsw) fun En σ H ⟨c, G, s, r, h⟩ => by
    have h : PostO X.K ex W c G En (if isDic s i = true then (f s).stm fun d s => match s.ρ[i]?, kD d with
        | some (some (.dic es)), some k => if (lkD es k).isSome = true then .nx (s.put i (.dic (dropKD es k))) else .bad
        | _, _ => .bad
      else .bad) := h
    by_cases hdc : isDic s i = true
    · rw [if_pos hdc] at h
      obtain ⟨es0, hes0⟩ := isDic_at hdc
      obtain ⟨a, kvs0, q1, q2, q3⟩ := r.dicAt hes0
      refine ⟨_, q1, a, rfl, .inl ⟨kvs0, .inl q2⟩, soE r h fun d s1 G1 H1 v e1 r1 hv h1 => ?_⟩
      split at h1
      · rename_i es k hes hk
        obtain ⟨a', kvs, p1, p2, p3⟩ := r1.dicAt hes
        rw [q1] at p1
        cases p1
        have ek := kV_of hv hk
        subst ek
        by_cases hz : (lkD es k).isSome = true
        · rw [if_pos hz] at h1
          obtain ⟨dd, hdd⟩ := Option.isSome_iff_exists.mp hz
          obtain ⟨w, hw, _⟩ := (p3.find k).1 dd hdd
          exact ⟨kvs, k, w, p2, rfl, hw, h1 σ G1 _ (Same.refl _) (r1.setDic hes q1 (p3.drop k))⟩
        · rw [if_neg hz] at h1
          exact h1.elim
      · exact h1.elim
    · rw [if_neg hdc] at h
      exact h.elim
/-! ### pop and extend of a list of its own -/
def isOwn (s : S) (i : Nat) : Bool := match s.ρ[i]? with
  | some (some (.own _)) => true
  | _ => false
theorem isOwn_at {s : S} {i : Nat} (h : isOwn s i = true) : ∃ ds, s.ρ[i]? = some (some (.own ds)) := by
  unfold isOwn at h
  split at h
  · exact ⟨_, by assumption⟩
  · cases h
/-- name.pop() -/
def fPopL (i : Nat) : FE := fun s => match s.ρ[i]? with
  | some (some (.own ds)) => (match ds.getLast? with
    | some d => .ok d (s.put i (.own ds.dropLast))
    | none => .bad)
  | _ => .bad
theorem DpAll.lastV {K : PySem.W.Frag} {G : Hp} {vs : List V} {ds : List D} (h : DpAll K G vs ds) {d : D} (e : ds.getLast? = some d) : ∃ v, vs[vs.length - 1]? = some v ∧ Dp K G v d := by
  rw [List.getLast?_eq_getElem?] at e
  obtain ⟨v, hv, hvd⟩ := h.get e
  exact ⟨v, by rw [h.len]; exact hv, hvd⟩
theorem DpAll.dropLastI {K : PySem.W.Frag} {G : Hp} {vs : List V} {ds : List D} (h : DpAll K G vs ds) : DpAll K G vs.dropLast ds.dropLast := by
  rw [List.dropLast_eq_take, List.dropLast_eq_take, h.len]
  exact h.takeI _
theorem ePopL (i : Nat) {X : Cx} {ex : ExT} {W : WX} {x : Str} {p apos pos : Pos} (hN : X.N[i]? = some x := by rfl) (hv : Vis X.env.scope x := by first | exact Or.inl rfl | exact Or.inr (Or.inl rfl) | exact Or.inr (Or.inr rfl))
    (hd : (x == ("__debug__" : Str)) = false := by decide) (hcd : (x == ("__classdict__" : Str)) = false := by decide) (hbase : attributeBase (.Name x p) "pop" X.env (eval (.Name x p) X.env) = eval (.Name x p) X.env := by rfl) (hline : (apos.endLine == pos.line) = true := by rfl) :
    PE X (.Call (.Attribute (.Name x p) "pop" apos) [] [] pos) (tE X.K ex W (fPopL i)) :=
  PE.imp (pe_bm0 PySem.F.plainAttrs_list PySem.F.slot_list_pop PySem.F.type_list_pop mt_pop (pe_var hN hv hd hcd) hbase hline) fun σ H Q ⟨c, G, s, r, h⟩ => by
    unfold fPopL at h
    split at h
    · rename_i ds hds
      split at h
      · rename_i d hdl
        obtain ⟨q, vs, eq, hdd, r3, b3⟩ := r.takeOwn hds
        obtain ⟨v, hv1, hv2⟩ := hdd.lastV hdl
        refine ⟨_, eq, .inl ⟨rfl, vs, SqL.of b3.at_⟩, q, vs, v, rfl, rfl, b3.at_, hv1, ?_⟩
        exact h G _ (Same.refl _) (r.setOwn hds eq b3.at_ hdd.dropLastI) v hv2
      · exact h.elim
    · exact h.elim
/-- name.extend(e), e a new list -/
def sExt (i : Nat) (f : FA) : FO := fun s => if isOwn s i = true then (f s).stm fun zs s => match s.ρ[i]? with
    | some (some (.own ds)) => if ds.length + zs.length ≤ sizeLine then .nx (s.put i (.own (ds ++ zs))) else .bad
    | _ => .bad
  else .bad
theorem kExt (i : Nat) {X : Cx} {ex : ExT} {W : WX} {x : Str} {e : Expr} {f : FA} {p apos pos pos2 : Pos} (he : PE X e (tO X.K ex W f)) (hN : X.N[i]? = some x := by rfl) (hv : Vis X.env.scope x := by first | exact Or.inl rfl | exact Or.inr (Or.inl rfl) | exact Or.inr (Or.inr rfl))
    (hd : (x == ("__debug__" : Str)) = false := by decide) (hcd : (x == ("__classdict__" : Str)) = false := by decide)
    (hbase : attributeBase (.Name x p) "extend" X.env (eval (.Name x p) X.env) = eval (.Name x p) X.env := by rfl)
    (hfew : ((backTo pos (starEach [e] X.env)).all (fun x => !x.1) && (backToKw pos (keywordEach [] X.env)).all (fun x => x.1.isSome) && decide ([e].length + ([] : List Keyword).length + (if ([] : List Keyword).isEmpty then 0 else 1) < 30)) = true := by rfl)
    (hline : (apos.endLine == pos.line) = true := by rfl) (hs : starEach [e] X.env = (false, eval e X.env) :: starEach [] X.env := by rfl) (hplain : (backTo pos (starEach [] X.env)).any (·.1) = false := by rfl)
    (hsw : swapsWith (.Call (.Attribute (.Name x p) "extend" apos) [e] [] pos) none pos2.line X.env = pure false := by rfl) :
    PS X (.Expr (.Call (.Attribute (.Name x p) "extend" apos) [e] [] pos) pos2) (tS X.K ex W (sExt i f)) :=
  PS.imp (ps_expr (pe_bm PySem.F.plainAttrs_list PySem.F.slot_list_extend PySem.F.type_list_extend mt_extend (pe_var hN hv hd hcd) (pa_cons he pa_nil hs) hbase hfew hline hs hplain) hsw) fun En σ H ⟨c, G, s, r, h⟩ => by
    have h : PostO X.K ex W c G En (if isOwn s i = true then (f s).stm fun zs s => match s.ρ[i]? with
        | some (some (.own ds)) => if ds.length + zs.length ≤ sizeLine then .nx (s.put i (.own (ds ++ zs))) else .bad
        | _ => .bad
      else .bad) := h
    by_cases ho : isOwn s i = true
    · rw [if_pos ho] at h
      obtain ⟨ds0, hds0⟩ := isOwn_at ho
      obtain ⟨q, vs0, eq, hdd0, r3, b3⟩ := r.takeOwn hds0
      refine ⟨_, eq, .inl ⟨rfl, vs0, SqL.of b3.at_⟩, ?_⟩
      refine ⟨c, G, s, r, h.fromR fun zs s1 G1 H1 e1 r1 h1 v hvf => ?_⟩
      obtain ⟨p2, zv, rfl, hzd, bz⟩ := hvf.beside
      split at h1
      · rename_i ds hds
        obtain ⟨q', vs, eq', hdd, r4, b4⟩ := r1.takeOwn hds
        rw [eq] at eq'
        cases eq'
        by_cases hz : ds.length + zs.length ≤ sizeLine
        · rw [if_pos hz] at h1
          refine ⟨q, p2, vs, zv, rfl, rfl, b4.at_, bz.at_, by rw [hdd.len, hzd.len]; exact hz, ?_⟩
          exact h1 σ G1 _ (Same.refl _) (r1.setOwn hds eq b4.at_ (hdd.app hzd))
        · rw [if_neg hz] at h1
          exact h1.elim
      · exact h1.elim
    · rw [if_neg ho] at h
      exact h.elim
/-! ### n.bit_length() -/
def dBits (d : D) : Option D := match d with
  | .int i => some (.int (Builtin.Int.intBits i : Nat))
  | _ => none
theorem eBitsF {X : Cx} {ex : ExT} {W : WX} {o : Expr} {f : FE} {apos pos : Pos} (he : PE X o (tE X.K ex W f)) (hbase : attributeBase o "bit_length" X.env (eval o X.env) = eval o X.env := by rfl) (hline : (apos.endLine == pos.line) = true := by rfl) :
    PE X (.Call (.Attribute o "bit_length" apos) [] [] pos) (tE X.K ex W (fB1 dBits f)) := PE.imp (pe_bits he hbase hline) fun σ H Q ⟨c, G, s, r, h⟩ => inE r h fun d s1 G1 H1 v e1 r1 hv h1 => by
  cases d with
  | int i =>
    cases hv
    exact ⟨i, rfl, h1.val r1 (.int _)⟩
  | _ => exact h1.elim
/-! ### a new object as a value -/
def fFzN (f : S → R Ent) : FE := fun s => (f s).bind fun e s => match e with
  | .own ds => .ok (.list ds) s
  | .dic es => .ok (dicD es) s
  | _ => .bad
theorem eFzN {X : Cx} {ex : ExT} {W : WX} {e : Expr} {f : S → R Ent} (he : PE X e (tN X.K ex W f)) : PE X e (tE X.K ex W (fFzN f)) := PE.imp he fun σ H Q ⟨c, G, s, r, h⟩ => inN r h fun en s1 G1 H1 v e1 r1 hv h1 => by
  cases en with
  | own ds =>
    obtain ⟨⟨p, ho, rfl, hG, h0, hw, hH, vs, rfl, hd⟩, _, hs⟩ := hv
    obtain ⟨sm, r2⟩ := r1.freezeBeside hs hG h0 hw hH rfl
    exact h1 _ H1 sm r2 _ (.lst (SqL.of upd_same) (hd.up sm))
  | dic es =>
    obtain ⟨⟨p, ho, rfl, hG, h0, hw, hH, kvs, rfl, hd⟩, _, hs⟩ := hv
    obtain ⟨sm, r2⟩ := r1.freezeBeside hs hG h0 hw hH rfl
    exact h1 _ H1 sm r2 _ (.dct upd_same (hd.up sm).kvs)
  | _ => exact h1.elim
/-- the turns that a while may take -/
def wF : Nat := 100000
end PD
/-! PD22: dict(zip(a, b)). -/
namespace PDZ
open PySem PySem.Spec RZ
abbrev zipO (f0 : Value) (f1 : Bool) (TI TO : Addr) : Obj := { cls := .type "zip", dict := none, data := .fields #[f0, .bool f1, .bool false, .ref TI, .ref TO], slots := #[] }
section
variable {prog : Program} {w : World} {A : Around} {E : Value → Shared → Prop} {s : Shared}
theorem flagSet {z TI TO : Addr} {f0 : Value} {f1 : Bool} {Post : Bool → Shared → Prop} (hz : s.heap.get? z = some (zipO f0 f1 TI TO))
    (h : ∀ h1, h1.get? z = some (zipO f0 true TI TO) → Heap.SameBut z s.heap h1 → Post false { s with heap := h1 }) :
    wpAny (model prog w) A (if (Value.bool f1 != Value.bool true) = true then (do setField (.ref z) 1 (.bool true); pure false) else pure false) Post E s := by
  cases f1 with
  | true =>
    rw [if_neg (by decide)]
    exact wpAny_pure (h s.heap hz ⟨rfl, fun _ _ => rfl⟩)
  | false =>
    rw [if_pos (by decide)]
    exact wpAny_bind (wpAny_setField_rec hz (by simp) fun h1 a b => wpAny_pure (h h1 a b))
/-- a turn of zip over two tuples while the last pair is still known -/
theorem again_item {z TI TO i1 i2 l1 l2 T0 : Addr} {oT : Obj} {f1 : Bool} {k1 k2 : Nat} {xs ys : Array Value} {x y : Value} {Q : Value → Shared → Prop} (D : ZipApart z TI TO i1 i2 l1 l2)
    (hz : s.heap.get? z = some (zipO (rawInt T0) f1 TI TO)) (hT0 : s.heap.get? T0 = some oT) (hTI : IsPair s.heap TI (.ref i1) (.ref i2))
    (g1 : s.heap.IsTupleIter i1 l1 k1) (g2 : s.heap.IsTupleIter i2 l2 k2) (e1 : s.heap.IsTuple l1 xs) (e2 : s.heap.IsTuple l2 ys) (ex : xs[k1]? = some x) (ey : ys[k2]? = some y)
    (hQ : ∀ h', h'.get? z = some (zipO (rawInt T0) true TI TO) → h'.IsTupleIter i1 l1 (k1 + 1) → h'.IsTupleIter i2 l2 (k2 + 1) → IsPair h' s.heap.objs.size x y → h'.objs.size = s.heap.objs.size + 1 →
      (∀ c o, c ≠ z → c ≠ i1 → c ≠ i2 → s.heap.get? c = some o → h'.get? c = some o) → Q (.ref s.heap.objs.size) { s with heap := h' }) :
    wpAny (model prog w) A (Builtin.«zip.__next__» ⟨[.ref z], []⟩) (fun r s' => ∃ v, r = .done (.ret v) ∧ Q v s') E s := by
  show wpAny _ _ (field (.ref z) 2 >>= fun _ => _) _ _ s
  refine wpAny_bind (wpAny_field hz rfl (x := .bool false) rfl ?_)
  show wpAny _ _ (field (.ref z) 3 >>= fun _ => _) _ _ s
  refine wpAny_bind (wpAny_field hz rfl (x := .ref TI) rfl (wpAny_bind (wpAny_seqItems hTI rfl ?_)))
  show wpAny _ _ (Builtin.SmallTypes.ownedTupleIsFree (.ref z) >>= fun _ => _) _ _ s
  refine wpAny_bind ?_
  unfold Builtin.SmallTypes.ownedTupleIsFree
  refine wpAny_bind (wpAny_field hz rfl (x := rawInt T0) rfl ?_)
  show wpAny _ _ (loadIfAlive ((T0 : Int).toNat) >>= fun _ => _) _ _ s
  rw [Int.toNat_natCast]
  refine wpAny_bind (PySem.W.kdx_alive hT0 ?_)
  simp only [Option.isNone_some, Bool.false_eq_true, if_false]
  refine wpAny_bind (wpAny_field hz rfl (x := .bool f1) rfl ?_)
  refine flagSet hz fun h1 hz1 hs1 => ?_
  simp only [Bool.false_eq_true, if_false]
  refine wpAny_bind ?_
  simp only [List.forIn_cons, List.forIn_nil, ← Array.forIn_toList]
  refine wpAny_bind (wpAny_bind (wpAny_holding ?_))
  show wpAny _ _ (Builtin.SmallTypes.nextOf (.ref i1) >>= fun _ => _) _ _ _
  refine wpAny_bind (nextOf_tuple_item (g1.extBut hs1.extBut D.i1z) (e1.extBut hs1.extBut D.l1z) ex fun h2 n2 hs2 => wpAny_pure (wpAny_pure ?_))
  dsimp only
  refine wpAny_bind (wpAny_bind (wpAny_holding ?_))
  show wpAny _ _ (Builtin.SmallTypes.nextOf (.ref i2) >>= fun _ => _) _ _ _
  refine wpAny_bind (nextOf_tuple_item ((g2.extBut hs1.extBut D.i2z).extBut hs2.extBut D.i12.symm) ((e2.extBut hs1.extBut D.l2z).extBut hs2.extBut D.l2i1) ey fun h3 n3 hs3 => wpAny_pure (wpAny_pure (wpAny_pure ?_)))
  dsimp only
  refine wpAny_bind (wpAny_newTuple (items := [x, y]) ?_ (by show (2 : Nat) ≤ sizeLine; decide))
  have hsz : h3.objs.size = s.heap.objs.size := by rw [hs3.1, hs2.1, hs1.1]
  have kp : ∀ c o, c ≠ z → c ≠ i1 → c ≠ i2 → s.heap.get? c = some o → h3.get? c = some o := fun c o c1 c2 c3 q => hs3.extBut _ _ c3 (hs2.extBut _ _ c2 (hs1.extBut _ _ c1 q))
  have hz3 : h3.get? z = some (zipO (rawInt T0) true TI TO) := hs3.extBut _ _ D.i2z.symm (hs2.extBut _ _ D.i1z.symm hz1)
  have up : ∀ c o, h3.get? c = some o → (h3.push { cls := .type "tuple", data := .seq #[x, y] }).get? c = some o := fun c o q => Heap.get?_push_of_some _ q
  have ht : (h3.push { cls := .type "tuple", data := .seq #[x, y] }).get? h3.objs.size = some { cls := .type "tuple", data := .seq #[x, y] } := Heap.get?_push_size _ rfl
  have hs : (h3.push { cls := .type "tuple", data := .seq #[x, y] }).objs.size = h3.objs.size + 1 := Heap.size_push ..
  refine wpAny_pure ⟨_, rfl, ?_⟩
  rw [hsz] at ht hs
  show Q (.ref h3.objs.size) _
  rw [hsz]
  exact hQ _ (up _ _ hz3) ((n2.extBut hs3.extBut D.i12).at fun o q => up _ o q) (n3.at fun o q => up _ o q) ht hs fun c o c1 c2 c3 q => up c o (kp c o c1 c2 c3 q)
/-- zip is at its end, the last pair still known -/
theorem again_end {z TI TO i1 i2 l1 l2 T0 : Addr} {oT : Obj} {f1 : Bool} {k1 k2 : Nat} {xs ys : Array Value} {Q : Fin → Shared → Prop} (hh : A.handled = none) (D : ZipApart z TI TO i1 i2 l1 l2)
    (hz : s.heap.get? z = some (zipO (rawInt T0) f1 TI TO)) (hT0 : s.heap.get? T0 = some oT) (hTI : IsPair s.heap TI (.ref i1) (.ref i2))
    (g1 : s.heap.IsTupleIter i1 l1 k1) (g2 : s.heap.IsTupleIter i2 l2 k2) (e1 : s.heap.IsTuple l1 xs) (e2 : s.heap.IsTuple l2 ys) (hend : xs[k1]? = none ∨ ys[k2]? = none)
    (hE : ∀ h' e, (∀ c o, c ≠ z → c ≠ i1 → c ≠ i2 → s.heap.get? c = some o → h'.get? c = some o) → (∃ o, h'.get? e = some o ∧ o.cls = .type "StopIteration") → E (.ref e) { s with heap := h' }) :
    wpAny (model prog w) A (Builtin.«zip.__next__» ⟨[.ref z], []⟩) Q E s := by
  show wpAny _ _ (field (.ref z) 2 >>= fun _ => _) _ _ s
  refine wpAny_bind (wpAny_field hz rfl (x := .bool false) rfl ?_)
  show wpAny _ _ (field (.ref z) 3 >>= fun _ => _) _ _ s
  refine wpAny_bind (wpAny_field hz rfl (x := .ref TI) rfl (wpAny_bind (wpAny_seqItems hTI rfl ?_)))
  show wpAny _ _ (Builtin.SmallTypes.ownedTupleIsFree (.ref z) >>= fun _ => _) _ _ s
  refine wpAny_bind ?_
  unfold Builtin.SmallTypes.ownedTupleIsFree
  refine wpAny_bind (wpAny_field hz rfl (x := rawInt T0) rfl ?_)
  show wpAny _ _ (loadIfAlive ((T0 : Int).toNat) >>= fun _ => _) _ _ s
  rw [Int.toNat_natCast]
  refine wpAny_bind (PySem.W.kdx_alive hT0 ?_)
  simp only [Option.isNone_some, Bool.false_eq_true, if_false]
  refine wpAny_bind (wpAny_field hz rfl (x := .bool f1) rfl ?_)
  refine flagSet hz fun h1 hz1 hs1 => ?_
  simp only [Bool.false_eq_true, if_false]
  refine wpAny_bind ?_
  simp only [List.forIn_cons, List.forIn_nil, ← Array.forIn_toList]
  refine wpAny_bind (wpAny_bind (wpAny_holding ?_))
  show wpAny _ _ (Builtin.SmallTypes.nextOf (.ref i1) >>= fun _ => _) _ _ _
  cases hx : xs[k1]? with
  | none =>
    exact wpAny_bind (nextOf_tuple_end hh (g1.extBut hs1.extBut D.i1z) (e1.extBut hs1.extBut D.l1z) hx fun h2 e hs2 he => hE h2 e (fun c o c1 c2 _ q => hs2 _ _ c2 (hs1.extBut _ _ c1 q)) he)
  | some x =>
    have hy : ys[k2]? = none := by rcases hend with h | h; rw [hx] at h; cases h; exact h
    refine wpAny_bind (nextOf_tuple_item (g1.extBut hs1.extBut D.i1z) (e1.extBut hs1.extBut D.l1z) hx fun h2 n2 hs2 => wpAny_pure (wpAny_pure ?_))
    dsimp only
    refine wpAny_bind (wpAny_bind (wpAny_holding ?_))
    show wpAny _ _ (Builtin.SmallTypes.nextOf (.ref i2) >>= fun _ => _) _ _ _
    exact wpAny_bind (nextOf_tuple_end hh ((g2.extBut hs1.extBut D.i2z).extBut hs2.extBut D.i12.symm) ((e2.extBut hs1.extBut D.l2z).extBut hs2.extBut D.l2i1) hy fun h3 e hs3 he =>
      hE h3 e (fun c o c1 c2 c3 q => hs3 _ _ c3 (hs2.extBut _ _ c2 (hs1.extBut _ _ c1 q))) he)
theorem pyNext_again {z TI TO i1 i2 l1 l2 T0 : Addr} {oT : Obj} {f1 : Bool} {k1 k2 : Nat} {xs ys : Array Value} {x y : Value} {Q : Option Value → Shared → Prop} (D : ZipApart z TI TO i1 i2 l1 l2)
    (hz : s.heap.get? z = some (zipO (rawInt T0) f1 TI TO)) (hT0 : s.heap.get? T0 = some oT) (hTI : IsPair s.heap TI (.ref i1) (.ref i2))
    (g1 : s.heap.IsTupleIter i1 l1 k1) (g2 : s.heap.IsTupleIter i2 l2 k2) (e1 : s.heap.IsTuple l1 xs) (e2 : s.heap.IsTuple l2 ys) (ex : xs[k1]? = some x) (ey : ys[k2]? = some y)
    (hQ : ∀ h', h'.get? z = some (zipO (rawInt T0) true TI TO) → h'.IsTupleIter i1 l1 (k1 + 1) → h'.IsTupleIter i2 l2 (k2 + 1) → IsPair h' s.heap.objs.size x y → h'.objs.size = s.heap.objs.size + 1 →
      (∀ c o, c ≠ z → c ≠ i1 → c ≠ i2 → s.heap.get? c = some o → h'.get? c = some o) → Q (some (.ref s.heap.objs.size)) { s with heap := h' }) :
    wpAny (model prog w) A (pyNext (.ref z)) Q E s := by
  have hT : s.TypeIs (.ref z) "zip" := ⟨_, hz, rfl⟩
  unfold pyNext
  refine wpAny_bind (wpAny_attempt (wpAny_callSpecial?_slot (name := Str.ofString "__next__") hT F.slot_zip_next
    (wpAny_call_entry F.slot_zip_next hT F.entry_zip_next (again_item D hz hT0 hTI g1 g2 e1 e2 ex ey fun h' a1 a2 a3 a4 a5 a6 => ?_) (F.args_zip_next_1 _))))
  exact wpAny_pure (hQ h' a1 a2 a3 a4 a5 a6)
theorem pyNext_again_end {z TI TO i1 i2 l1 l2 T0 : Addr} {oT : Obj} {f1 : Bool} {k1 k2 : Nat} {xs ys : Array Value} {Q : Option Value → Shared → Prop} (hh : A.handled = none) (D : ZipApart z TI TO i1 i2 l1 l2)
    (hz : s.heap.get? z = some (zipO (rawInt T0) f1 TI TO)) (hT0 : s.heap.get? T0 = some oT) (hTI : IsPair s.heap TI (.ref i1) (.ref i2))
    (g1 : s.heap.IsTupleIter i1 l1 k1) (g2 : s.heap.IsTupleIter i2 l2 k2) (e1 : s.heap.IsTuple l1 xs) (e2 : s.heap.IsTuple l2 ys) (hend : xs[k1]? = none ∨ ys[k2]? = none)
    (hQ : ∀ h', (∀ c o, c ≠ z → c ≠ i1 → c ≠ i2 → s.heap.get? c = some o → h'.get? c = some o) → Q none { s with heap := h' }) : wpAny (model prog w) A (pyNext (.ref z)) Q E s := by
  have hT : s.TypeIs (.ref z) "zip" := ⟨_, hz, rfl⟩
  unfold pyNext
  refine wpAny_bind (wpAny_attempt (wpAny_callSpecial?_slot (name := Str.ofString "__next__") hT F.slot_zip_next
    (wpAny_call_entry F.slot_zip_next hT F.entry_zip_next (again_end hh D hz hT0 hTI g1 g2 e1 e2 hend fun h' e hk he => ?_) (F.args_zip_next_1 _))))
  obtain ⟨o, ho, hc⟩ := he
  refine wpAny_bind (wpAny_isInstance (T := "StopIteration") (b := true) ⟨o, ho, hc⟩ isSubtype_stop ?_)
  exact wpAny_pure (hQ _ hk)
end
end PDZ
/-! PD23: dict(zip(a, b)) of two tuples. -/
namespace PDZ
open PySem PySem.Spec RZ
section
variable {prog : Program} {w : World}
/-- what zip over two tuples holds before turn i, while a dict at d fills up -/
def ZT (z TI TO i1 i2 l1 l2 d : Addr) (xs ys : Array Value) (i : Nat) (h : Heap) : Prop :=
  (IsPair h TI (.ref i1) (.ref i2) ∧ h.IsTupleIter i1 l1 i ∧ h.IsTupleIter i2 l2 i ∧ h.IsTuple l1 xs ∧ h.IsTuple l2 ys) ∧
  ((h.get? z = some (zipO .none false TI TO) ∧ ∃ a b, IsPair h TO a b) ∨ ∃ (T : Addr) (f : Bool) (oT : Obj), h.get? z = some (zipO (rawInt T) f TI TO) ∧ h.get? T = some oT ∧ T ≠ z ∧ T ≠ i1 ∧ T ≠ i2 ∧ T ≠ d)
theorem zt_src {A : Around} (hA : A.handled = none) {z TI TO i1 i2 l1 l2 d : Addr} {xs ys : Array Value} (D : ZipApart z TI TO i1 i2 l1 l2)
    (dz : d ≠ z) (dTI : d ≠ TI) (dTO : d ≠ TO) (d1 : d ≠ i1) (d2 : d ≠ i2) (dl1 : d ≠ l1) (dl2 : d ≠ l2) :
    PairSrc prog w A z d [z, TO, i1, i2] (min xs.size ys.size) (fun i k v => xs[i]? = some k ∧ ys[i]? = some v) (ZT z TI TO i1 i2 l1 l2 d xs ys) := by
  have out : ∀ {h h' : Heap}, (∀ c o, c ≠ z → c ≠ TO → c ≠ i1 → c ≠ i2 → h.get? c = some o → h'.get? c = some o) → ∀ c o, c ∉ [z, TO, i1, i2] → h.get? c = some o → h'.get? c = some o := by
    intro h h' k c o m e
    simp only [List.mem_cons, List.not_mem_nil, or_false, not_or] at m
    exact k c o m.1 m.2.1 m.2.2.1 m.2.2.2 e
  refine ⟨?_, ?_, ?_, ?_⟩
  · simp [dz, dTO, d1, d2]
  · rintro i h h' ⟨⟨a1, a2, a3, a4, a5⟩, a6⟩ k
    refine ⟨⟨k _ _ dTI.symm a1, a2.at fun o e => k _ o d1.symm e, a3.at fun o e => k _ o d2.symm e, a4.at fun o e => k _ o dl1.symm e, a5.at fun o e => k _ o dl2.symm e⟩, ?_⟩
    rcases a6 with ⟨b1, x, y, b2⟩ | ⟨T, f, oT, b1, b2, b3⟩
    · exact .inl ⟨k _ _ dz.symm b1, x, y, k _ _ dTO.symm b2⟩
    · exact .inr ⟨T, f, oT, k _ _ dz.symm b1, k _ _ b3.2.2.2 b2, b3⟩
  · rintro i s Q E hi ⟨⟨a1, a2, a3, a4, a5⟩, a6⟩ hd hQ
    have ex : xs[i]? = some (xs[i]'(by omega)) := Array.getElem?_eq_getElem (by omega)
    have ey : ys[i]? = some (ys[i]'(by omega)) := Array.getElem?_eq_getElem (by omega)
    have fr : ∀ {c o}, s.heap.get? c = some o → s.heap.objs.size ≠ c := fun e => Nat.ne_of_gt (Heap.lt_size e)
    have n1 : s.heap.objs.size ≠ i1 := let ⟨_, e, _⟩ := a2; fr e
    have n2 : s.heap.objs.size ≠ i2 := let ⟨_, e, _⟩ := a3; fr e
    rcases a6 with ⟨b1, x, y, b2⟩ | ⟨T, f, oT, b1, b2, b3⟩
    · refine pyNext_zipT_item D b1 a1 b2 a2 a3 a4 a5 ex ey fun h' c1 c2 c3 c4 c5 c6 k => ?_
      refine hQ s.heap.objs.size _ _ h' s.toks ⟨ex, ey⟩ (.inl ⟨_, c5, rfl, _, rfl⟩) ⟨⟨k _ _ D.TIz D.TITO D.TIi1 D.TIi2 a1, c3, c4, ?_, ?_⟩, .inr ⟨_, false, _, c1, c5, fr b1, n1, n2, Nat.ne_of_gt hd⟩⟩ (out k)
      · exact a4.at fun o e => k _ o D.l1z D.l1TO D.l1i1 D.l1i2 e
      · exact a5.at fun o e => k _ o D.l2z D.l2TO D.l2i1 D.l2i2 e
    · refine pyNext_again D b1 b2 a1 a2 a3 a4 a5 ex ey fun h' c1 c3 c4 c5 c6 k => ?_
      refine hQ s.heap.objs.size _ _ h' s.toks ⟨ex, ey⟩ (.inl ⟨_, c5, rfl, _, rfl⟩) ⟨⟨k _ _ D.TIz D.TIi1 D.TIi2 a1, c3, c4, ?_, ?_⟩, .inr ⟨T, true, oT, c1, k _ _ b3.1 b3.2.1 b3.2.2.1 b2, b3⟩⟩ (out fun c o m1 _ m3 m4 e => k c o m1 m3 m4 e)
      · exact a4.at fun o e => k _ o D.l1z D.l1i1 D.l1i2 e
      · exact a5.at fun o e => k _ o D.l2z D.l2i1 D.l2i2 e
  · rintro s Q E ⟨⟨a1, a2, a3, a4, a5⟩, a6⟩ hQ
    have hend : xs[min xs.size ys.size]? = none ∨ ys[min xs.size ys.size]? = none := by
      rw [Array.getElem?_eq_none_iff, Array.getElem?_eq_none_iff]
      omega
    rcases a6 with ⟨b1, x, y, b2⟩ | ⟨T, f, oT, b1, b2, b3⟩
    · exact pyNext_zipT_end hA D b1 a1 b2 a2 a3 a4 a5 hend fun h' k => hQ h' s.toks (out k)
    · exact pyNext_again_end hA D b1 b2 a1 a2 a3 a4 a5 hend fun h' k => hQ h' s.toks (out fun c o m1 _ m3 m4 e => k c o m1 m3 m4 e)
def ZOk (z TI TO i1 i2 l1 l2 : Addr) (xs ys : Array Value) (h : Heap) : Prop :=
  (h.get? z = some (zipO .none false TI TO) ∧ ∃ a b, IsPair h TO a b) ∧ IsPair h TI (.ref i1) (.ref i2) ∧ h.IsTupleIter i1 l1 0 ∧ h.IsTupleIter i2 l2 0 ∧ h.IsTuple l1 xs ∧ h.IsTuple l2 ys
theorem zt_arg {z TI TO i1 i2 l1 l2 : Addr} (D : ZipApart z TI TO i1 i2 l1 l2) (xs ys : Array Value) :
    PairArg prog w "zip" z [z, TI, TO, i1, i2, l1, l2] [z, TO, i1, i2] (min xs.size ys.size) (fun i k v => xs[i]? = some k ∧ ys[i]? = some v) (ZOk z TI TO i1 i2 l1 l2 xs ys) := by
  refine ⟨fun s ok => ⟨_, ok.1.1, rfl⟩, by decide, ?_, ?_, ?_, fun A s Q E hA ok h => getAttrOr_miss_zip ok.1.1 rfl rfl rfl zip_no_keys (by decide +kernel) hA h, ?_⟩
  · rintro h h' ⟨⟨a1, x, y, a2⟩, a3, a4, a5, a6, a7⟩ k
    exact ⟨⟨k _ _ a1, x, y, k _ _ a2⟩, k _ _ a3, a4.at fun o => k _ o, a5.at fun o => k _ o, a6.at fun o => k _ o, a7.at fun o => k _ o⟩
  · rintro h ⟨⟨a1, x, y, a2⟩, a3, ⟨_, a4, _⟩, ⟨_, a5, _⟩, ⟨_, a6, _⟩, ⟨_, a7, _⟩⟩ b hb
    simp only [List.mem_cons, List.not_mem_nil, or_false] at hb
    rcases hb with rfl | rfl | rfl | rfl | rfl | rfl | rfl
    all_goals first | exact ⟨_, a1⟩ | exact ⟨_, a3⟩ | exact ⟨_, a2⟩ | exact ⟨_, a4⟩ | exact ⟨_, a5⟩ | exact ⟨_, a6⟩ | exact ⟨_, a7⟩
  · intro b hb
    simp only [List.mem_cons, List.not_mem_nil, or_false] at hb
    rcases hb with rfl | rfl | rfl | rfl <;> simp
  · rintro A s d Q E hA ⟨⟨a1, a2⟩, a3, a4, a5, a6, a7⟩ hd hf h
    simp only [List.mem_cons, List.not_mem_nil, or_false, not_or] at hf
    obtain ⟨f1, f2, f3, f4, f5, f6, f7⟩ := hf
    exact wpAny_pyIter_zip a1 (h z _ (ZT z TI TO i1 i2 l1 l2 d xs ys) s.heap s.toks (zt_src hA D f1 f2 f3 f4 f5 f6 f7) ⟨⟨a3, a4, a5, a6, a7⟩, .inl ⟨a1, a2⟩⟩ (fun _ _ e => e) fun b hb => .inl hb)
end
end PDZ
/-! PD24: the rule for dict(zip(a, b)), two tuples. -/
namespace PDZ
open PySem PySem.Spec RZ L2
open PyProof.Rows hiding St
section
variable {X : Cx} {pins : List (Addr × Obj)} {σ : L2.St}
/-- a zip is there, made of two tuples -/
def ZMid (X : Cx) (pins : List (Addr × Obj)) (σ : L2.St) (Q : VK) (u : Value) (s2 : Shared) : Prop :=
  ∃ (s1 : Shared) (H1 : Hp) (z TI TO i1 i2 a b : Addr) (ks : List Key) (ys : List V) (us vs : List Value), Inv X pins σ H1 s1 ∧ Vals (ks.map kV) us ∧ Vals ys vs ∧ us.length ≤ sizeLine ∧ u = .ref z ∧ ZipApart z TI TO i1 i2 a b ∧ ZOk z TI TO i1 i2 a b us.toArray vs.toArray s2.heap ∧
    (∃ h2, s2 = { s1 with heap := h2 }) ∧ (∀ c o, s1.heap.get? c = some o → c ∉ [z, TO, i1, i2] ∧ s2.heap.get? c = some o) ∧ s1.heap.objs.size ≤ s2.heap.objs.size ∧ ∀ p, H1 p = none → Q (.ref p) (upd H1 p (.dK (mergeK [] (ks.zip ys))))
theorem zip_kv : ∀ {ks : List Key} {ys : List V} {vs : List Value}, Vals ys vs → KV (ks.zip ys) (ks.zip vs)
  | [], _, _, _ => by rw [List.zip_nil_left, List.zip_nil_left]; exact .nil
  | _ :: _, _, _, .nil => .nil
  | k :: ks, _, _, .cons h t => .cons ⟨rfl, h⟩ (zip_kv (ks := ks) t)
def tDZip (K : PySem.W.Frag) (ta : TA) : TE := fun σ H Q => ta σ H fun xs H1 => ∃ (a b : Addr) (ks : List Key) (ys : List V), xs = [.ref a, .ref b] ∧ SqT K H1 a (ks.map kV) ∧ SqT K H1 b ys ∧
  ∀ p, H1 p = none → Q (.ref p) (upd H1 p (.dK (mergeK [] (ks.zip ys))))
theorem mid_dict {Q : VK} {u : Value} {s2 : Shared} (hc : X.calm = true) (m : ZMid X pins σ Q u s2) : wpAny (model X.prog X.w) X.A (call (.type "dict") [u]) (EP X pins σ Q) X.xe s2 := by
  obtain ⟨s1, H1, z, TI, TO, i1, i2, a, b, ks, ys, us, vs, I1, r1, r2, hl, rfl, D, ok, ⟨h2, rfl⟩, kp, hs, q⟩ := m
  have l1 : ks.length = us.length := by simpa using r1.length
  have l2 := r2.length
  have mn : (ks.zip vs).length = min us.toArray.size vs.toArray.size := by rw [List.length_zip, l1, List.size_toArray, List.size_toArray]
  have hlen : (ks.zip vs).length ≤ sizeLine := by rw [mn, List.size_toArray]; omega
  refine call_dict_pairs (knd := mixKind X.prog X.w) (kvs := ks.zip vs) (zt_arg D us.toArray vs.toArray) (I1.ok.hd hc) ok ⟨mn, fun i key v e => ?_⟩ (by rw [← mn]; exact hlen) fun h' tk hd k => ?_
  · obtain ⟨e1, e2⟩ := e
    rw [List.getElem?_toArray] at e1 e2
    have hi : i < ks.length := by rw [l1]; exact (List.getElem?_eq_some_iff.mp e1).1
    refine ⟨ks[i], by rw [List.getElem?_zip_eq_some]; exact ⟨List.getElem?_eq_getElem hi, e2⟩, ?_⟩
    obtain ⟨w, ew, rw'⟩ := r1.get (show (ks.map kV)[i]? = some (kV ks[i]) by rw [List.getElem?_map, List.getElem?_eq_getElem hi]; rfl)
    rw [e1] at ew
    cases ew
    exact kV_is rw'
  · have kv := zip_kv (ks := ks) r2
    have hm : (h2.objs.size == sysModules) = false := beq_eq_false_iff_ne.mpr (Nat.ne_of_gt (Nat.lt_of_lt_of_le I1.big hs))
    have hz : (mergeK [] (ks.zip ys)).length ≤ sizeLine := by
      refine Nat.le_trans (length_mergeK _ _) ?_
      rw [List.length_nil, Nat.zero_add, kv.length]
      exact hlen
    exact ⟨.ref h2.objs.size, upd H1 h2.objs.size (.dK (mergeK [] (ks.zip ys))), I1.laid (t' := tk) (fun c o e => k c o (kp c o e).1 (kp c o e).2) hs (show ObjOk X.prog X.w _ _ _ (.dK (mergeK [] (ks.zip ys))) from ⟨hz, hm, merged [] (ks.zip vs), KV.merge kv .nil, hd⟩), rfl, q _ (I1.hok.fresh hs)⟩
theorem pe_dictzip {e e2 : Expr} {ta : TA} {p p2 pos pos2 : Pos} (hc : X.calm = true) (hm : X.mg "zip" = none) (hm2 : X.mg "dict" = none) (ha : PA X [e, e2] ta) (hg : Gl X "zip" := by rfl) (hg2 : Gl X "dict" := by rfl)
    (hs : starEach [e, e2] X.env = (false, eval e X.env) :: starEach [e2] X.env := by rfl) (hpl : (backTo pos2 (starEach [e2] X.env)).any (·.1) = false := by rfl)
    (hs2 : starEach [.Call (.Name "zip" p2) [e, e2] [] pos2] X.env = (false, eval (.Call (.Name "zip" p2) [e, e2] [] pos2) X.env) :: starEach [] X.env := by rfl) (hpl2 : (backTo pos (starEach [] X.env)).any (·.1) = false := by rfl) :
    PE X (.Call (.Name "dict" p) [.Call (.Name "zip" p2) [e, e2] [] pos2] [] pos) (tDZip X.K ta) := by
  have hb : bootBuiltins (Str.ofString "dict") = some (.type "dict") := by decide +kernel
  refine ⟨fun pins s σ H Q I h => ?_⟩
  refine wpAny_Call_Name_kw (ld_blt I hg2 hm2 hb ?_ (by decide) (by decide))
  refine PyProof.Rows.callWith_type1 ?_ hs2 hpl2
  rw [hs2]
  show wpAny _ _ (spliced ((false, eval (.Call (.Name "zip" p2) [e, e2] [] pos2) X.env) :: backTo pos (starEach [] X.env))) _ _ s
  refine Calls.spliced_cons (thn (Q := ZMid X pins σ Q) ?_ fun u s2 m => ?_)
  · refine Call_ (ld_blt I hg hm PyProof.Rows.boot_zip (PyProof.Rows.callWith_type1 (thn (ha.run pos2 pins s σ H _ I h) fun us s1 ⟨xs, H1, I1, r1, q1⟩ => ?_) hs hpl))
    obtain ⟨a, b, ks, ys, ex, ta, tb, q⟩ := q1
    subst ex
    obtain ⟨u, v, ei, ru, rv⟩ := vals2 r1
    subst ei
    cases ru
    cases rv
    obtain ⟨its, v1, p1, z1⟩ := I1.tuple ta
    obtain ⟨its2, v2, p2, _⟩ := I1.tuple tb
    obtain ⟨o1, ho1, _⟩ := id p1
    obtain ⟨o2, ho2, _⟩ := id p2
    refine call_zipT (show s1.heap.IsTuple a its.toArray from p1) (show s1.heap.IsTuple b its2.toArray from p2) fun h' hz hTI hTO h1 h2 hsz hk => ?_
    refine ⟨s1, H1, _, _, _, _, _, a, b, ks, ys, its, its2, I1, v1, v2, by rw [← v1.length]; exact z1, rfl, PySem.W.ktu_apart s1.heap.objs.size a b (Heap.lt_size ho1) (Heap.lt_size ho2), ⟨⟨hz, _, _, hTO⟩, hTI, h1, h2, ?_, ?_⟩, ⟨h', rfl⟩, fun c o e => ⟨?_, hk c o e⟩, ?_, q⟩
    · exact Heap.IsTuple.at (show s1.heap.IsTuple a its.toArray from p1) fun o e => hk _ o e
    · exact Heap.IsTuple.at (show s1.heap.IsTuple b its2.toArray from p2) fun o e => hk _ o e
    · have := Heap.lt_size e
      simp only [List.mem_cons, List.not_mem_nil, or_false, not_or]
      refine ⟨?_, ?_, ?_, ?_⟩ <;> (intro z; subst z; revert this; simp [Nat.not_lt])
    · show s1.heap.objs.size ≤ h'.objs.size
      rw [hsz]
      exact Nat.le_add_right _ _
  · exact Calls.spliced_nil (mid_dict hc m)
end
end PDZ
namespace PD
open PySem PySem.Spec L2
open PyProof.Rows hiding St
variable [WI]
def kDs : List D → Option (List Key)
  | [] => some []
  | d :: r => (kD d).bind fun k => (kDs r).map fun l => k :: l
def fDZip (f g : FE) : S → R Ent := fun s => (f s).bind fun a s => (g s).bind fun b s => match a, b with
  | .tuple ds, .tuple ys => (R.of (kDs ds) s).bind fun ks s => .ok (.dic (mergeKD [] (ks.zip ys))) s
  | _, _ => .bad
section
variable {K : PySem.W.Frag} {G : Hp}
theorem kDs_of : ∀ {ds : List D} {xs : List V} {ks : List Key}, DpAll K G xs ds → kDs ds = some ks → xs = ks.map kV
  | [], _, _, h, e => by cases h; cases e; rfl
  | d :: ds, _, _, h, e => by
    cases h with
    | cons h1 h2 =>
      rw [kDs] at e
      cases z : kD d with
      | none => rw [z] at e; cases e
      | some k =>
        rw [z, Option.bind_some] at e
        cases z2 : kDs ds with
        | none => rw [z2] at e; cases e
        | some l =>
          rw [z2] at e
          cases e
          rw [kV_of h1 z, kDs_of h2 z2, List.map_cons]
theorem zip_pr : ∀ {ks : List Key} {ys : List V} {ds : List D}, DpAll K G ys ds → PrAll K G (ks.zip ys) (ks.zip ds)
  | [], _, _, _ => by rw [List.zip_nil_left, List.zip_nil_left]; exact .nil
  | _ :: _, _, _, .nil => .nil
  | k :: ks, _, _, .cons h t => .cons h (zip_pr (ks := ks) t)
end
section
variable {X : Cx} {ex : ExT} {W : WX}
theorem nDZip {e e2 : Expr} {f g : FE} {p p2 pos pos2 : Pos} (hc : X.calm = true) (hm : X.mg "zip" = none) (hm2 : X.mg "dict" = none) (he : PE X e (tE X.K ex W f)) (he2 : PE X e2 (tE X.K ex W g)) (hg : Gl X "zip" := by rfl) (hg2 : Gl X "dict" := by rfl)
    (hs : starEach [e, e2] X.env = (false, eval e X.env) :: starEach [e2] X.env := by rfl) (hs1 : starEach [e2] X.env = (false, eval e2 X.env) :: starEach [] X.env := by rfl) (hpl : (backTo pos2 (starEach [e2] X.env)).any (·.1) = false := by rfl)
    (hs2 : starEach [.Call (.Name "zip" p2) [e, e2] [] pos2] X.env = (false, eval (.Call (.Name "zip" p2) [e, e2] [] pos2) X.env) :: starEach [] X.env := by rfl) (hpl2 : (backTo pos (starEach [] X.env)).any (·.1) = false := by rfl) :
    PE X (.Call (.Name "dict" p) [.Call (.Name "zip" p2) [e, e2] [] pos2] [] pos) (tN X.K ex W (fDZip f g)) :=
  PE.imp (PDZ.pe_dictzip hc hm hm2 (pa_cons he (pa_cons he2 pa_nil hs1) hs) hg hg2 hs hpl hs2 hpl2) fun σ H Q ⟨_, _, _, r, q⟩ => inE r q fun da s1 G1 H1 v1 e1 r1 hv1 q1 => inE r1 q1 fun db s2 G2 H2 v2 e2' r2 hv2 q2 => by
    replace hv1 := hv1.up e2'
    split at q2
    · rename_i ds ys
      cases hv1 with
      | tup a1 a2 =>
        cases hv2 with
        | tup b1 b2 =>
          cases z : kDs ds with
          | none => rw [z] at q2; exact q2.elim
          | some ks =>
            rw [z] at q2
            have ek := kDs_of a2 z
            subst ek
            refine ⟨_, _, ks, _, rfl, sqT_mono r2.b.sub a1, sqT_mono r2.b.sub b1, fun p' hp => ?_⟩
            obtain ⟨r3, g3, h03, w3, n3⟩ := r2.newOb (ho := .dK (mergeK [] (ks.zip _))) hp
            exact q2 G2 _ (Same.refl _) r3 _ ⟨⟨p', _, rfl, g3, h03, w3, upd_same, _, rfl, PrAll.merge (zip_pr b2) .nil⟩, rfl, n3⟩
    · exact q2.elim
end
end PD
/-! PD25: borrowing calls whose results are tuples. -/
namespace PD
open PySem PySem.Spec L2
open PyProof.Rows hiding St
variable [WI]
mutual
/-- atoms, and tuples of such -/
def tupD : D → Bool
  | .none => true
  | .bool _ => true
  | .int _ => true
  | .str _ => true
  | .tuple ds => tupDs ds
  | _ => false
def tupDs : List D → Bool
  | [] => true
  | d :: ds => tupD d && tupDs ds
end
/-- G, and the tuples of H -/
def tupG (G H : Hp) : Hp := fun a => match G a with
  | some o => some o
  | none => match H a with
    | some o => if mutO o = true then none else some o
    | none => none
theorem tupG_of {G H : Hp} {a : Addr} {o : HO} (e : G a = some o) : tupG G H a = some o := by unfold tupG; rw [e]
theorem tupG_tup {G H : Hp} {a : Addr} {o : HO} (s : Same G H) (e : H a = some o) (m : mutO o = false) : tupG G H a = some o := by
  unfold tupG
  cases g : G a with
  | some o' =>
    have := s a o' g
    rw [e] at this
    cases this
    rfl
  | none =>
    dsimp only
    rw [e]
    exact if_neg (by rw [m]; exact Bool.false_ne_true)
theorem tupG_some {G H : Hp} {a : Addr} {o : HO} (e : tupG G H a = some o) : G a = some o ∨ (H a = some o ∧ mutO o = false) := by
  unfold tupG at e
  split at e
  · rename_i g
    cases e
    exact .inl g
  · split at e
    · rename_i o' h
      by_cases m : mutO o' = true
      · rw [if_pos m] at e
        cases e
      · rw [if_neg m] at e
        cases e
        exact .inr ⟨h, Bool.eq_false_iff.mpr m⟩
    · cases e
theorem tupG_none {G H : Hp} {a : Addr} {o : HO} (g : G a = none) (h : H a = some o) (m : mutO o = true) : tupG G H a = none := by
  unfold tupG
  rw [g]
  dsimp only
  rw [h]
  exact if_pos m
section
variable {K : PySem.W.Frag} {c : Act} {G G' H H' : Hp} {σ : St} {s : S}
theorem Rel.tups (r : Rel K c G H σ s) : Same G (tupG G H) ∧ Rel K c (tupG G H) H σ s := by
  have sm : Same G (tupG G H) := fun a o e => tupG_of e
  refine ⟨sm, ⟨⟨fun a o e => ?_, r.b.wl, ?_, sm.seq r.b.scr, r.b.g0.trans sm, r.b.h0, fun a o e m n => ?_, fun q hq => let ⟨t, g, h⟩ := r.b.tb q hq; have ⟨ps, z⟩ := TabS.at_ t; ⟨t, tupG_none g z rfl, h⟩, fun a ps z => ?_⟩, r.len, fun i e q => ?_, r.sep⟩⟩
  · rcases tupG_some e with h | ⟨h, _⟩
    · exact r.b.sub a o h
    · exact h
  · exact tupG_none r.b.wf r.b.wl rfl
  · by_cases ha : a = c.wa
    · rw [ha]
      exact tupG_none r.b.wf r.b.wl rfl
    · exact tupG_none (r.b.n0 a o e m n) (r.b.h0 a o e ha) m
  · rcases tupG_some z with h | ⟨_, h1⟩
    · exact r.b.ng a ps h
    · cases h1
  · obtain ⟨v, hv, he⟩ := r.slot i e q
    exact ⟨v, hv, he.up sm fun q' ho h1 h2 h3 h4 m => ⟨h1, tupG_none h2 h1 m⟩⟩
theorem SqT.tups {a : Addr} {xs : List V} (g : Same G' H) (sm : Same G H) (h : SqT K G' a xs) : SqT K (tupG G H) a xs := by
  rcases h with (h | ⟨o, h⟩) | h
  · exact .inl (.inl (tupG_tup sm (g _ _ h) rfl))
  · exact .inl (.inr ⟨o, tupG_tup sm (g _ _ h) rfl⟩)
  · exact .inr h
mutual
theorem dp_tups (g : Same G' H) (sm : Same G H) : ∀ (d : D) (v : V), tupD d = true → Dp K G' v d → Dp K (tupG G H) v d
  | .none, _, _, h => by cases h; exact .non
  | .bool _, _, _, h => by cases h; exact .bl _
  | .int _, _, _, h => by cases h; exact .int _
  | .str _, _, _, h => by cases h; exact .str _
  | .tuple ds, _, t, h => by
    cases h with
    | tup h1 h2 => exact .tup (SqT.tups g sm h1) (dps_tups g sm ds _ (by rw [tupD] at t; exact t) h2)
theorem dps_tups (g : Same G' H) (sm : Same G H) : ∀ (ds : List D) (vs : List V), tupDs ds = true → DpAll K G' vs ds → DpAll K (tupG G H) vs ds
  | [], _, _, h => by cases h; exact .nil
  | d :: ds, _, t, h => by
    rw [tupDs, Bool.and_eq_true] at t
    cases h with
    | cons h1 h2 => exact .cons (dp_tups g sm d _ t.1 h1) (dps_tups g sm ds _ t.2 h2)
end
end
end PD
namespace PD
open PySem PySem.Spec L2
open PyProof.Rows hiding St
variable [WI]
/-- f(..), what grows is lent; the result: atoms and tuples -/
def fCallT (n : Nat) (sem : Sem') (f : FBs) : FE := fun s => match f s with
  | none => .bad
  | some ds => if ds.length = n then
      match sem ds s.w with
      | .ret d w => if tupD d = true then .ok d { s with w := ⟨s.w.ns, w.k⟩ } else .bad
      | _ => .bad
    else .bad
/-- name[k], lent -/
def bIx (i : Nat) (f : FB) : FB := fun s => (f s).bind fun k => match look s i with
  | some (.dict es) => (kesD es).bind fun m => (kD k).bind fun k => lkD m k
  | _ => none
section
variable {X : Cx} {ex : ExT} {W : WX}
theorem eBorIx (i : Nat) {k : Nat} {x : Str} {b : Expr} {f : FB} {p pos : Pos} (hr : Room k X.A) (hb : PE X b (tB X.K f)) (hN : X.N[i]? = some x := by rfl) (hv : Vis X.env.scope x := by first | exact Or.inl rfl | exact Or.inr (Or.inl rfl) | exact Or.inr (Or.inr rfl))
    (hd : (x == ("__debug__" : Str)) = false := by decide) (hcd : (x == ("__classdict__" : Str)) = false := by decide) (hns : NoSl b := by exact fun _ _ => rfl) : PE X (.Subscript (.Name x p) b pos) (tB X.K (bIx i f)) :=
  PE.imp (pe_dget (hu1 hr) (pe_var (i := i) hN hv hd hcd) hb hns) fun σ H Q ⟨c, G, s, d, r, h, q⟩ => by
    unfold bIx at h
    cases hf : f s with
    | none => rw [hf] at h; cases h
    | some kd =>
      rw [hf, Option.bind_some] at h
      split at h
      · rename_i es hl
        obtain ⟨a, kvs, m, q1, q2, q3, q4⟩ := r.lookD hl
        rw [q3, Option.bind_some] at h
        cases kz : kD kd with
        | none => rw [kz] at h; cases h
        | some key =>
          rw [kz, Option.bind_some] at h
          obtain ⟨w, hw, hwd⟩ := (q4.find key).1 d h
          refine ⟨_, q1, c, G, s, kd, r, hf, fun v hv => ?_⟩
          have ev := kV_of hv kz
          subst ev
          refine ⟨a, w, rfl, ?_, q w (hwd.up r.toStar)⟩
          rw [← hw]
          exact .inl ⟨kvs, key, .inl q2, rfl, rfl⟩
      · cases h
theorem eCallT {k n : Nat} {x : Str} {sem : Sem'} {e : Expr} {es : List Expr} {f : FBs} {p pos : Pos} (F : FnD X.prog X.w X.K X.mg X.base ex k x false n sem) (hr : RoomG k X.A) (tk : Takes X W) (ha : PA X (e :: es) (tBs X.K f)) (hg : Gl X x := by rfl)
    (hdb : (x == ("__debug__" : Str)) = false := by decide) (he : starEach (e :: es) X.env = (false, eval e X.env) :: starEach es X.env := by rfl) (hpl : (backTo pos (starEach es X.env)).any (·.1) = false := by rfl) :
    PE X (.Call (.Name x p) (e :: es) [] pos) (tE X.K ex W (fCallT n sem f)) := by
  obtain ⟨fa, fd, ps, ok, hm, hk, hb⟩ := F.ex
  refine PE.imp (pe_callG ok hr hg hm hk hb (fun σ => passAt tk σ) ha hdb he hpl) fun σ H Q ⟨c, G, s, r, q⟩ => ?_
  unfold fCallT at q
  cases hf : f s with
  | none => rw [hf] at q; exact q.elim
  | some ds =>
    rw [hf] at q
    dsimp only at q
    by_cases hl : ds.length = n
    · rw [if_pos hl] at q
      refine ⟨c, G, s, ds, r, hf, fun vs hvs => ⟨c.wa, c.sc, star c H, s.w, ds, vs, r.baseStar, rfl, hl, hvs, ?_⟩⟩
      cases z : sem ds s.w with
      | ret d w' =>
        rw [z] at q
        dsimp only at q
        by_cases hd : tupD d = true
        · rw [if_pos hd] at q
          intro v G' H' b hvd
          obtain ⟨sm, r2⟩ := (r.back b).tups
          exact q _ H' sm r2 v (dp_tups b.sub (r.back b).b.sub d v hd hvd)
        · rw [if_neg hd] at q
          exact q.elim
      | exc k as w' =>
        rw [z] at q
        exact q.elim
      | bad =>
        rw [z] at q
        exact q.elim
    · rw [if_neg hl] at q
      exact q.elim
end
end PD
/-! PD28: a dict whose keys are trees (nested tuples): {}, name[key] = True. -/
namespace PD
open PySem PySem.Spec L2
open PyProof.Rows hiding St
variable [WI]
/-! ### data that are keys -/
mutual
def nkD : D → Option NestedKey
  | .none => some .none
  | .int i => some (.num i)
  | .str x => some (.text x)
  | .tuple ds => (nkAll ds).map .tup
  | .bool _ => none
  | .list _ => none
  | .dict _ => none
def nkAll : List D → Option (List NestedKey)
  | [] => some []
  | d :: ds => match nkD d with
    | some k => match nkAll ds with
      | some ks => some (k :: ks)
      | none => none
    | none => none
end
mutual
theorem nkD_data : ∀ (d : D) (k : NestedKey), nkD d = some k → k.data = d
  | .none, _, h => by cases h; rfl
  | .int i, _, h => by cases h; rfl
  | .str x, _, h => by cases h; rfl
  | .tuple ds, k, h => by
    rw [nkD] at h
    cases z : nkAll ds with
    | none => rw [z] at h; cases h
    | some ks =>
      rw [z] at h
      cases h
      rw [NestedKey.data, nkAll_data ds ks z]
  | .bool _, _, h => by cases h
  | .list _, _, h => by cases h
  | .dict _, _, h => by cases h
theorem nkAll_data : ∀ (ds : List D) (ks : List NestedKey), nkAll ds = some ks → NestedKey.datas ks = ds
  | [], _, h => by cases h; rfl
  | d :: ds, ks, h => by
    rw [nkAll] at h
    cases z : nkD d with
    | none => rw [z] at h; cases h
    | some k =>
      cases y : nkAll ds with
      | none => rw [z, y] at h; cases h
      | some r =>
        rw [z, y] at h
        cases h
        rw [NestedKey.datas, nkD_data d k z, nkAll_data ds r y]
end
section
variable {X : Cx} {pins : List (Addr × Obj)} {σ : St} {H : Hp} {s : Shared}
mutual
theorem nested_of (I : Inv X pins σ H s) : ∀ (k : NestedKey) (v : V) (u : Value), Dp X.K H v k.data → RelV v u → NestedIs s.heap k u
  | .none, _, _, h, r => by
    cases h
    cases (show _ = Value.none from r)
    exact .none
  | .num i, _, _, h, r => by
    cases h
    obtain ⟨t, rfl⟩ := r
    exact .int i t
  | .text x, _, _, h, r => by
    cases h
    obtain ⟨t, rfl⟩ := r
    exact .text x t
  | .tup ks, _, _, h, r => by
    rw [NestedKey.data] at h
    cases h with
    | tup h1 h2 =>
      cases (show _ = Value.ref _ from r)
      obtain ⟨its, rv, ⟨o, ho, hc, n, hd⟩, _⟩ := I.tuple h1
      exact .tup ho hc hd (nestedAll_of I ks _ _ h2 rv)
theorem nestedAll_of (I : Inv X pins σ H s) : ∀ (ks : List NestedKey) (vs : List V) (us : List Value), DpAll X.K H vs (NestedKey.datas ks) → Vals vs us → NestedAll s.heap ks us
  | [], _, _, h, r => by
    cases h
    cases r
    exact .nil
  | k :: ks, _, _, h, r => by
    rw [NestedKey.datas] at h
    cases h with
    | cons h1 h2 => cases r with
      | cons r1 r2 => exact .cons (nested_of I k _ _ h1 r1) (nestedAll_of I ks _ _ h2 r2)
end
end
/-! ### the object -/
/-- a key is stored -/
def addX (xs : List (NestedKey × Addr)) (k : NestedKey) (b : Addr) : List (NestedKey × Addr) := if k ∈ xs.map (·.1) then xs else xs ++ [(k, b)]
theorem keysO_ok {P : Program} {w wd : World} {H : Hp} {h : Heap} {a : Addr} {xs : List (NestedKey × Addr)} {o : Obj} {es : Array DictEntry} {ep : Nat} (hs : (a == sysModules) = false) (h1 : h.get? a = some o) (h2 : o.ExactDict) (h3 : o.data = .dict es ep)
    (h4 : es.toList = xs.map fun x => ⟨x.1.hash wd, .ref x.2, .bool true⟩) : ObjOk P w H h a (keysO wd a xs) :=
  ⟨⟨hs, o, es, ep, h1, h2, h3, h4⟩, ⟨o, h1⟩, fun _ _ ⟨z, o, es, ep, e1, r⟩ st => ⟨z, o, es, ep, st _ e1, r⟩⟩
abbrev nK (X : Cx) : HeapKind X.prog X.w NestedKey := nestedKind X.prog X.w
def tri (x : NestedKey × Addr) : NestedKey × Addr × Value := (x.1, x.2, .bool true)
theorem tri_fst (xs : List (NestedKey × Addr)) : (xs.map tri).map (·.1) = xs.map (·.1) := by
  rw [List.map_map]
  rfl
theorem atKey_none {xs : List (NestedKey × Addr)} {k : NestedKey} (h : k ∉ xs.map (·.1)) : atKey (xs.map tri) k = none := by
  refine atKey_none_of_get fun j p e => h ?_
  have m := List.mem_of_getElem? e
  obtain ⟨x, hx, ex⟩ := List.mem_map.mp m
  exact List.mem_map.mpr ⟨x, hx, congrArg (·.1) ex⟩
theorem atKey_old {xs : List (NestedKey × Addr)} {k : NestedKey} (h : k ∈ xs.map (·.1)) : ∃ p, atKey (xs.map tri) k = some p := by
  cases z : atKey (xs.map tri) k with
  | some p => exact ⟨p, rfl⟩
  | none =>
    exfalso
    unfold atKey at z
    rw [Option.map_eq_none_iff, List.find?_eq_none] at z
    obtain ⟨x, hx, ex⟩ := List.mem_map.mp h
    exact z (tri x) (List.mem_map.mpr ⟨x, hx, rfl⟩) (decide_eq_true ex)
theorem stored_tri (xs : List (NestedKey × Addr)) (k : NestedKey) (b : Addr) : storedH (xs.map tri) k b (.bool true) = (addX xs k b).map tri := by
  unfold addX
  by_cases h : k ∈ xs.map (·.1)
  · rw [if_pos h]
    obtain ⟨p, hp⟩ := atKey_old h
    rw [storedH_old hp]
    refine (List.map_congr_left fun x hx => ?_).trans (List.map_id _)
    obtain ⟨y, _, rfl⟩ := List.mem_map.mp hx
    unfold putAt
    split <;> rfl
  · rw [if_neg h, storedH_new (atKey_none h), List.map_append]
    rfl
section
variable {X : Cx}
/-- the keys of the dict at a stand -/
structure KeysAt (X : Cx) (H : Hp) (a : Addr) (xs : List (NestedKey × Addr)) : Prop where
  at_ : H a = some (keysO X.w a xs)
  nd : (xs.map (·.1)).Nodup
  dp : ∀ x ∈ xs, Dp X.K H (.ref x.2) x.1.data
theorem KeysAt.dict {pins : List (Addr × Obj)} {σ : St} {H : Hp} {s : Shared} {a : Addr} {xs : List (NestedKey × Addr)} (k : KeysAt X H a xs) (h8 : ∀ x ∈ xs, x.1.depth ≤ 8) (I : Inv X pins σ H s) : (a == sysModules) = false ∧ s.heap.DictOfH (nK X) a (xs.map tri) := by
  obtain ⟨⟨z, o, es, ep, h1, h2, h3, h4⟩, _⟩ := I.hok a _ k.at_
  refine ⟨z, o, es, ep, h1, h2, h3, h4.trans ?_, fun x hx => ?_, by rw [tri_fst]; exact k.nd⟩
  · rw [List.map_map]
    rfl
  · obtain ⟨y, hy, rfl⟩ := List.mem_map.mp hx
    exact ⟨nested_of I y.1 _ _ (k.dp y hy) rfl, h8 y hy⟩
/-- the first key of a dict: nothing is compared -/
theorem find_first {prog : Program} {w : World} {A : Around} {E : Value → Shared → Prop} {s : Shared} {d b : Addr} {o : Obj} {ep : Nat} {h : Int} {Q : Option Nat → Shared → Prop} (ho : s.heap.get? d = some o) (hd : o.data = .dict #[] ep) (q : Q none s) :
    wpAny (model prog w) A (dictFind d (.ref b) h) Q E s := by
  unfold dictFind
  try with_reducible refine wpAny_holding ?_
  refine wpAny_bind (wpAny_dictEntries ho hd ?_)
  dsimp only
  have e0 : placesWithHash (#[] : Array DictEntry).size (fun i => (#[] : Array DictEntry)[i]?.map (·.hash)) h = [] := by
    unfold placesWithHash
    simp
  rw [e0, if_neg (by simp [carriedByValue]), if_neg (by simp), if_neg (by simp)]
  unfold tableMayTell
  show wpAny _ _ ((pure false : Sem Bool) >>= _) _ _ s
  refine wpAny_bind (wpAny_pure ?_)
  rw [if_neg (by simp)]
  show wpAny _ _ (pure none) _ _ s
  exact wpAny_pure q
theorem set_first {prog : Program} {w : World} {A : Around} {E : Value → Shared → Prop} {s : Shared} {d b : Addr} {o : Obj} {ep : Nat} {k : NestedKey} {v : Value} {Q : Unit → Shared → Prop} (hu : A.units + 1 + k.depth < cLine) (ho : s.heap.get? d = some o) (hx : o.ExactDict) (hd : o.data = .dict #[] ep) (hk : NestedIs s.heap k (.ref b))
    (q : ∀ h', (∃ o' es' ep', h'.get? d = some o' ∧ o'.ExactDict ∧ o'.data = .dict es' ep' ∧ es'.toList = [⟨k.hash w, .ref b, v⟩]) → Heap.SameBut d s.heap h' → Q () { s with heap := h', toks := s.toks + k.draws }) : wpAny (model prog w) A (setItem (.ref d) (.ref b) v) Q E s := by
  have ty : s.TypeIs (.ref d) "dict" := ⟨o, ho, hx.1⟩
  unfold setItem
  try with_reducible refine wpAny_holding ?_
  refine wpAny_bind (wpAny_sequenceKey ty (by decide) (wpAny_bind (wpAny_callSpecial?_slot (name := Str.ofString "__setitem__") ty PySem.slot_dict_setitem (wpAny_call_entry F.slot_dict_setitem ty PySem.entry_dict_setitem ?_ (args_dict_setitem _ _ _)))))
  show wpAny _ _ (Builtin.Dict.notOrdered "__setitem__" ⟨[.ref d, .ref b, v], []⟩ >>= _) _ _ s
  refine wpAny_bind (wpAny_notOrdered_dict ty ?_)
  show wpAny _ _ (dictSet d (.ref b) v >>= _) _ _ s
  refine wpAny_bind ?_
  unfold dictSet
  try with_reducible refine wpAny_holding ?_
  refine wpAny_bind (pyHash_key k _ _ _ _ hk hu ?_)
  unfold dictSetHashed
  try with_reducible refine wpAny_holding ?_
  refine wpAny_bind (find_first (s := { s with toks := s.toks + k.draws }) ho hd ?_)
  refine wpAny_bind (wpAny_rule (wpAny_updateDictKeys (hz := Nat.zero_le _) (s := { s with toks := s.toks + k.draws }) ho hd ?_))
  refine wpAny_pure ⟨.none, rfl, wpAny_pure (q _ ⟨_, _, ep + 1, Heap.get?_update_self _ ho (Obj.isFreed_of_dict (Obj.data_mapDictKeys hd _)), hx.mapDictKeys _, Obj.data_mapDictKeys hd _, rfl⟩ (Heap.SameBut.update ..))⟩
theorem ps_kput {o i value : Expr} {pos pos' : Pos} {td ty tv : TE} (hu : X.A.units + 60 < cLine) (ho : PE X o td) (hi : PE X i ty) (hv : PE X value tv) (hs : swapsWith value (some (.Subscript o i pos')) pos.line X.env = pure false) :
    PS X (.Assign [.Subscript o i pos'] value pos) (fun D σ H => tv σ H fun v H1 => td σ H1 fun x H2 => ty σ H2 fun y H3 => ∃ a b xs k, v = .bl true ∧ x = .ref a ∧ y = .ref b ∧ KeysAt X H3 a xs ∧ Dp X.K H3 (.ref b) k.data ∧ ((xs = [] ∧ k.depth ≤ 40) ∨ (k.depth ≤ 8 ∧ ∀ x ∈ xs, x.1.depth ≤ 8)) ∧ xs.length ≤ sizeLine ∧ D.nx σ (upd H3 a (keysO X.w a (addX xs k b)))) := by
  refine ⟨fun pins s σ H D I h => ?_⟩
  refine wpAny_Assign_Subscript (thn (hv.run pins s σ H _ I h) fun r s1 ⟨v, H1, I1, rv, q1⟩ => thn (ho.run pins s1 σ H1 _ I1 q1) fun u s2 ⟨x, H2, I2, rx, q2⟩ => thn (hi.run pins s2 σ H2 _ I2 q2) fun iv s3 ⟨y, H3, I3, ry, a, b, xs, k, ev, ex, ey, ka, kd, kz, kl, q3⟩ => ?_) hs
  subst ev ex ey
  obtain rfl : r = Value.bool true := rv
  obtain rfl : u = Value.ref a := rx
  obtain rfl : iv = Value.ref b := ry
  rcases kz with ⟨rfl, k40⟩ | ⟨k8, h8⟩
  · obtain ⟨⟨hsys, o1, es1, ep1, g1, g2, g3, g4⟩, _⟩ := I3.hok a _ ka.at_
    have e1 : es1 = #[] := Array.toList_eq_nil_iff.mp g4
    subst e1
    refine set_first (k := k) (by omega) g1 g2 g3 (nested_of I3 k _ _ kd rfl) fun h' ⟨o', es, ep, h1, h2, h3, h4⟩ sb => ⟨σ, _, d_write I3 (by rw [ka.at_]; exact True.intro) sb ⟨o', h1⟩ (keysO_ok hsys h1 h2 h3 (h4.trans rfl)), q3⟩
  · obtain ⟨hsys, dd⟩ := ka.dict h8 I3
    refine wpAny_setItem_heap (knd := nK X) (k := k) (hsz := by rw [List.length_map]; exact kl) (by show X.A.units + 1 + 8 < cLine; omega) ⟨nested_of I3 k _ _ kd rfl, k8⟩ dd fun h' dd' sb => ⟨σ, _, ?_, q3⟩
    rw [stored_tri] at dd'
    obtain ⟨o', es, ep, h1, h2, h3, h4, _, _⟩ := dd'
    refine d_write I3 (by rw [ka.at_]; exact True.intro) sb ⟨o', h1⟩ (keysO_ok hsys h1 h2 h3 (h4.trans ?_))
    rw [List.map_map]
    rfl
theorem pe_dnewKy {pos : Pos} : PE X (.Dict [] [] pos) (fun _ H Q => ∀ p, H p = none → Q (.ref p) (upd H p (keysO X.w p []))) := ⟨fun pins s σ H Q I h =>
  wpAny_Dict_empty ⟨.ref s.heap.objs.size, _, I.laid (a := s.heap.objs.size) (o := keysO X.w s.heap.objs.size []) (t' := s.toks) (fun _ _ q => Heap.get?_push_of_some _ q) (Nat.le_refl _)
    (keysO_ok (beq_eq_false_iff_ne.mpr (Ne.symm (Nat.ne_of_lt I.big))) (Heap.get?_push_size _ rfl) ⟨rfl, rfl, rfl⟩ rfl rfl), rfl, h _ (I.hok.fresh (Nat.le_refl _))⟩⟩
end
/-! ### the state of data -/
/-- {}, for keys of trees -/
def fKys0 : S → R Ent := fun s => .ok (.kys []) s
def inKs (k : NestedKey) : List D → Bool
  | [] => false
  | d :: r => (match nkD d with
    | some j => NestedKey.beq k j
    | none => false) || inKs k r
def le8 (d : D) : Bool := match nkD d with
  | some k => decide (k.depth ≤ 8)
  | none => false
def putKy (d : D) (ks : List D) : Option (List D) := match d with
  | .tuple _ => match nkD d with
    | some k => if (ks.isEmpty && decide (k.depth ≤ 40) || (decide (k.depth ≤ 8) && ks.all le8)) = true then if ks.length < 1000 then some (if inKs k ks then ks else ks ++ [d]) else none else none
    | none => none
  | _ => none
/-- name[key] = True -/
def sSetKy (i : Nat) (g : FE) : FO := fun s => match s.ρ[i]? with
  | some (some (.kys _)) => (g s).stm fun d s => match s.ρ[i]? with
    | some (some (.kys ks)) => match putKy d ks with
      | some ks' => .nx (s.put i (.kys ks'))
      | none => .bad
    | _ => .bad
  | _ => .bad
theorem data_inj {j k : NestedKey} (h : nkD k.data = some j) : j = k := by
  have go : (∀ k : NestedKey, nkD k.data = some k) := fun k => by
    refine NestedKey.rec (motive_1 := fun k => nkD k.data = some k) (motive_2 := fun ks => nkAll (NestedKey.datas ks) = some ks) rfl (fun _ => rfl) (fun _ => rfl) (fun ks ih => ?_) rfl (fun k ks h1 h2 => ?_) k
    · rw [NestedKey.data, nkD, ih]
      rfl
    · rw [NestedKey.datas, nkAll, h1, h2]
  rw [go] at h
  cases h
  rfl
theorem nkD_self (k : NestedKey) : nkD k.data = some k := by
  refine NestedKey.rec (motive_1 := fun k => nkD k.data = some k) (motive_2 := fun ks => nkAll (NestedKey.datas ks) = some ks) rfl (fun _ => rfl) (fun _ => rfl) (fun ks ih => ?_) rfl (fun k ks h1 h2 => ?_) k
  · rw [NestedKey.data, nkD, ih]
    rfl
  · rw [NestedKey.datas, nkAll, h1, h2]
theorem inKs_eq (k : NestedKey) : ∀ xs : List (NestedKey × Addr), inKs k (xs.map (·.1.data)) = decide (k ∈ xs.map (·.1))
  | [] => rfl
  | x :: xs => by
    rw [List.map_cons, inKs, nkD_self, inKs_eq k xs]
    show (NestedKey.beq k x.1 || decide (k ∈ xs.map (·.1))) = decide (k ∈ x.1 :: xs.map (·.1))
    rw [← NestedKey.decide_eq, ← Bool.decide_or]
    exact decide_eq_decide.mpr (List.mem_cons).symm
section
variable {K : PySem.W.Frag} {c : Act} {G H : Hp} {σ : St} {s : S} {p : Addr}
theorem Rel.kysAt {i : Nat} {ks : List D} (r : Rel K c G H σ s) (h : s.ρ[i]? = some (some (.kys ks))) : ∃ p xs, σ[i]? = some (some (.ref p)) ∧ H p = some (keysO WI.wd p xs) ∧ KysOk K G xs ks := by
  obtain ⟨v, hv, p, rfl, p', ho, e, _, _, _, h4, xs, rfl, h5⟩ := r.slot i _ h
  cases e
  exact ⟨p, xs, hv, h4, h5⟩
theorem Rel.setKys {i : Nat} {ks ks' : List D} {xs' : List (NestedKey × Addr)} (r : Rel K c G H σ s) (h : s.ρ[i]? = some (some (.kys ks))) (hv : σ[i]? = some (some (.ref p))) (hd : KysOk K G xs' ks') : Rel K c G (upd H p (keysO WI.wd p xs')) σ (s.put i (.kys ks')) := by
  obtain ⟨q, ho, hq, r2, b2, he⟩ := r.takeOb h rfl
  rw [hv] at hq
  cases hq
  obtain ⟨r3, b3⟩ := r2.setBeside b2 (keysO WI.wd p xs') (keysO_plB _ _ _)
  exact r3.backOb hv b3.ne ⟨p, rfl, p, _, rfl, b3.g, b3.h0, b3.wa, b3.at_, xs', rfl, hd⟩
end
section
variable {X : Cx} {ex : ExT} {W : WX}
theorem nKys0 {pos : Pos} (hw : WI.wd = X.w) : PE X (.Dict [] [] pos) (tN X.K ex W fKys0) := PE.imp pe_dnewKy fun σ H Q ⟨c, G, s, r, q⟩ p hp => by
  rw [← hw]
  obtain ⟨r1, g1, h01, w1, n1⟩ := r.newOb (ho := keysO WI.wd p []) hp
  exact q G _ (Same.refl _) r1 _ ⟨⟨p, rfl, p, _, rfl, g1, h01, w1, upd_same, [], rfl, ⟨List.nodup_nil, rfl, (fun _ h => nomatch h), Nat.zero_le _⟩⟩, rfl, n1⟩
theorem kSetKy (i : Nat) {k : Nat} {x : Str} {ix : Expr} {g : FE} {j : Nat} {p spos cpos pos : Pos} (hw : WI.wd = X.w) (hr : Room k X.A) (hg : PE X ix (tE X.K ex W g)) (hN : X.N[i]? = some x := by rfl) (hv : Vis X.env.scope x := by first | exact Or.inl rfl | exact Or.inr (Or.inl rfl) | exact Or.inr (Or.inr rfl))
    (hd : (x == ("__debug__" : Str)) = false := by decide) (hcd : (x == ("__classdict__" : Str)) = false := by decide) (hs : swapsWith (.Constant (.bool true) j cpos) (some (.Subscript (.Name x p) ix spos)) pos.line X.env = pure false := by rfl) :
    PS X (.Assign [.Subscript (.Name x p) ix spos] (.Constant (.bool true) j cpos) pos) (tS X.K ex W (sSetKy i g)) :=
  PS.imp (ps_kput (by have := hr.un; omega) (pe_var hN hv hd hcd) hg pe_bl hs) fun En σ H ⟨c, G, s, r, h⟩ => by
    have h : PostO X.K ex W c G En (match s.ρ[i]? with
      | some (some (.kys _)) => (g s).stm fun d s => match s.ρ[i]? with
        | some (some (.kys ks)) => match putKy d ks with
          | some ks' => .nx (s.put i (.kys ks'))
          | none => .bad
        | _ => .bad
      | _ => .bad) := h
    split at h
    · rename_i ks0 z0
      obtain ⟨p0, xs0, q0, _, _⟩ := r.kysAt z0
      refine ⟨.ref p0, q0, soE r h fun d s1 G1 H1 v e1 r1 hv h1 => ?_⟩
      split at h1
      · rename_i ks z1
        obtain ⟨p1, xs, q1, hp, ok⟩ := r1.kysAt z1
        rw [q0] at q1
        cases q1
        cases y : putKy d ks with
        | none => rw [y] at h1; exact h1.elim
        | some ks' =>
          rw [y] at h1
          unfold putKy at y
          split at y
          · rename_i ds
            split at y
            · rename_i k hk
              by_cases k8 : (ks.isEmpty && decide (k.depth ≤ 40) || (decide (k.depth ≤ 8) && ks.all le8)) = true
              · rw [if_pos k8] at y
                by_cases kl : ks.length < 1000
                · rw [if_pos kl] at y
                  have kz : (xs = [] ∧ k.depth ≤ 40) ∨ (k.depth ≤ 8 ∧ ∀ x ∈ xs, x.1.depth ≤ 8) := by
                    rw [Bool.or_eq_true, Bool.and_eq_true, Bool.and_eq_true] at k8
                    refine k8.imp (fun z => ⟨?_, of_decide_eq_true z.2⟩) fun z => ⟨of_decide_eq_true z.1, fun x hx => ?_⟩
                    · have z1 := List.isEmpty_iff.mp z.1
                      rw [ok.eq] at z1
                      exact List.map_eq_nil_iff.mp z1
                    · have z2 := List.all_eq_true.mp z.2 x.1.data (by rw [ok.eq]; exact List.mem_map.mpr ⟨x, hx, rfl⟩)
                      unfold le8 at z2
                      rw [nkD_self] at z2
                      exact of_decide_eq_true z2
                  have ed := nkD_data _ _ hk
                  have hv2 := hv
                  cases hv2 with
                  | @tup b _ _ h1' h2' =>
                    rw [← ed] at hv
                    have lx : xs.length = ks.length := by rw [ok.eq, List.length_map]
                    have sz : 1000 ≤ sizeLine := by rw [sizeLine_eq]; omega
                    refine ⟨p0, b, xs, k, rfl, rfl, rfl, ⟨by rw [← hw]; exact hp, ok.nd, fun x hx => (ok.at_ x hx).up r1.b.sub⟩, hv.up r1.b.sub, kz, by omega, ?_⟩
                    rw [← hw]
                    refine h1 σ G1 _ (Same.refl _) (r1.setKys z1 q0 ?_)
                    have y := Option.some.inj y
                    rw [ok.eq, inKs_eq] at y
                    unfold addX
                    by_cases m : k ∈ xs.map (·.1)
                    · rw [if_pos m]
                      simp only [m, decide_true, if_true] at y
                      exact ⟨ok.nd, y.symm, ok.at_, ok.len⟩
                    · rw [if_neg m]
                      simp only [m, decide_false, Bool.false_eq_true, if_false] at y
                      refine ⟨?_, ?_, fun x hx => ?_, by rw [List.length_append, List.length_singleton]; omega⟩
                      · rw [List.map_append]
                        refine List.nodup_append.mpr ⟨ok.nd, List.pairwise_singleton _ _, fun a ha b hb => ?_⟩
                        have hb : b = k := by simpa using hb
                        rw [hb]
                        exact fun z => m (z ▸ ha)
                      · rw [← y, List.map_append, ← ed]
                        rfl
                      · rcases List.mem_append.mp hx with hx | hx
                        · exact ok.at_ x hx
                        · have hx : x = (k, b) := by simpa using hx
                          rw [hx]
                          exact hv
                · rw [if_neg kl] at y; cases y
              · rw [if_neg k8] at y; cases y
            · cases y
          · cases y
      · exact h1.elim
    · exact h.elim
end
end PD
/-! PDr: the texts of trees, and their order, quickly (lists of numbers in the place of texts: the kernel computes them soon). -/
namespace PD
open PySem PySem.Spec L2 PySem.W PySem.Calls
open PyProof.Rows hiding St
def ltL : List Nat → List Nat → Bool
  | [], [] => false
  | [], _ :: _ => true
  | _ :: _, [] => false
  | x :: r, y :: t => cond (Nat.blt x y) true (cond (Nat.beq x y) (ltL r t) false)
theorem ltL_eq : ∀ a b : List Nat, ltL a b = decide (a < b)
  | [], [] => by simp [ltL]
  | [], _ :: _ => by simp [ltL]
  | _ :: _, [] => by simp [ltL]
  | x :: r, y :: t => by
    unfold ltL
    rw [ltL_eq r t]
    by_cases h : x < y
    · have e : Nat.blt x y = true := Nat.ble_eq_true_of_le h
      rw [e]
      show true = decide _
      rw [decide_eq_true (List.cons_lt_cons_iff.mpr (.inl h))]
    · have e : Nat.blt x y = false := by
        cases z : Nat.blt x y with
        | false => rfl
        | true => exact absurd (Nat.le_of_ble_eq_true z) h
      rw [e]
      show cond (Nat.beq x y) _ false = _
      by_cases h2 : x = y
      · subst h2
        have e2 : Nat.beq x x = true := Nat.beq_refl x
        rw [e2]
        show decide (r < t) = decide _
        congr 1
        exact propext ⟨fun z => List.cons_lt_cons_iff.mpr (.inr ⟨rfl, z⟩), fun z => (List.cons_lt_cons_iff.mp z).elim (fun q => absurd q h) fun q => q.2⟩
      · have e2 : Nat.beq x y = false := by
          cases z : Nat.beq x y with
          | false => rfl
          | true => exact absurd (Nat.eq_of_beq_eq_true z) h2
        rw [e2]
        show false = decide _
        rw [decide_eq_false]
        exact fun z => (List.cons_lt_cons_iff.mp z).elim h fun q => h2 q.1
/-- the figures of a number -/
def dgs : Nat → Nat → List Nat → List Nat
  | 0, _, acc => acc
  | f + 1, n, acc => cond (Nat.beq (n / 10) 0) ((48 + n % 10) :: acc) (dgs f (n / 10) ((48 + n % 10) :: acc))
theorem dig10 : ∀ k : Fin 10, (Nat.digitChar k.val).toNat = 48 + k.val := by decide
theorem dgs_eq : ∀ (f n : Nat) (l : List Char), (Nat.toDigitsCore 10 f n l).map Char.toNat = dgs f n (l.map Char.toNat)
  | 0, n, l => by simp [Nat.toDigitsCore, dgs]
  | f + 1, n, l => by
    have hd : (Nat.digitChar (n % 10)).toNat = 48 + n % 10 := dig10 ⟨n % 10, Nat.mod_lt _ (by decide)⟩
    unfold dgs Nat.toDigitsCore
    by_cases h : n / 10 = 0
    · have e : Nat.beq (n / 10) 0 = true := by rw [h]; rfl
      rw [e]
      simp only [h, if_true, cond, List.map_cons, hd]
    · have e : Nat.beq (n / 10) 0 = false := by
        cases z : Nat.beq (n / 10) 0 with
        | false => rfl
        | true => exact absurd (Nat.eq_of_beq_eq_true z) h
      rw [e]
      simp only [h, if_false, cond]
      rw [dgs_eq f (n / 10), List.map_cons, hd]
def intL : Int → List Nat → List Nat
  | .ofNat n, acc => dgs (n + 1) n [] ++ acc
  | .negSucc n, acc => (PyData.int (.negSucc n)).shown.cps.toList ++ acc
theorem intL_eq (i : Int) (acc : List Nat) : intL i acc = (PyData.int i).shown.cps.toList ++ acc := by
  cases i with
  | ofNat n =>
    show dgs (n + 1) n [] ++ acc = _
    congr 1
    have e : (PyData.int (.ofNat n)).shown = Str.ofString (toString (Int.ofNat n)) := by
      simp only [PyData.shown]
    rw [e, Str.ofString_eq_toList]
    show _ = ((toString (Int.ofNat n)).toList.map Char.toNat)
    have e2 : toString (Int.ofNat n) = Nat.repr n := rfl
    rw [e2]
    have e3 : (Nat.repr n).toList = Nat.toDigits 10 n := by
      simp [Nat.repr]
    rw [e3]
    unfold Nat.toDigits
    rw [dgs_eq]
    rfl
  | negSucc n => rfl
/-- signs that stand for themselves -/
def okC (c : Nat) : Bool := cond (Nat.ble 32 c) (cond (Nat.ble c 126) (cond (Nat.beq c 39) false (cond (Nat.beq c 92) false true)) false) false
theorem okC_all : ∀ c : Fin 127, okC c.val = true → Builtin.Str.reprChar 39 c.val = [c.val] := by decide +kernel
theorem okC_lt {c : Nat} (h : okC c = true) : c < 127 ∧ c ≠ 39 := by
  unfold okC at h
  cases a : Nat.ble 32 c with
  | false => rw [a] at h; cases h
  | true =>
    rw [a] at h
    cases b : Nat.ble c 126 with
    | false => rw [b] at h; cases h
    | true =>
      rw [b] at h
      refine ⟨Nat.lt_succ_of_le (Nat.le_of_ble_eq_true b), fun e => ?_⟩
      subst e
      cases h
def allC : List Nat → Bool
  | [] => true
  | c :: r => cond (okC c) (allC r) false
theorem allC_eq : ∀ l : List Nat, allC l = true → ∀ c ∈ l, okC c = true
  | [], _, _, h => nomatch h
  | c :: r, h, d, hd => by
    unfold allC at h
    cases z : okC c with
    | false => rw [z] at h; cases h
    | true =>
      rw [z] at h
      rcases List.mem_cons.mp hd with e | e
      · rw [e]
        exact z
      · exact allC_eq r h d e
theorem repr_fold : ∀ (l : List Nat) (acc : Array Nat), (∀ c ∈ l, okC c = true) → (l.foldl (fun out c => out ++ (Builtin.Str.reprChar 39 c).toArray) acc).toList = acc.toList ++ l
  | [], acc, _ => by simp
  | c :: r, acc, h => by
    have hc := h c List.mem_cons_self
    have e := okC_all ⟨c, (okC_lt hc).1⟩ hc
    rw [List.foldl_cons, repr_fold r _ fun d hd => h d (List.mem_cons_of_mem _ hd)]
    have e : Builtin.Str.reprChar 39 c = [c] := e
    rw [e]
    simp
def appL : List Nat → List Nat → List Nat
  | [], b => b
  | x :: r, b => x :: appL r b
theorem appL_eq : ∀ a b : List Nat, appL a b = a ++ b
  | [], b => rfl
  | x :: r, b => by unfold appL; rw [appL_eq r b]; rfl
def strL (x : Str) (acc : List Nat) : List Nat := cond (allC x.cps.toList) (39 :: appL x.cps.toList (39 :: acc)) ((PyData.str x).shown.cps.toList ++ acc)
theorem strL_eq (x : Str) (acc : List Nat) : strL x acc = (PyData.str x).shown.cps.toList ++ acc := by
  unfold strL
  cases z : allC x.cps.toList with
  | false => rfl
  | true =>
    have h := allC_eq _ z
    have q : reprQuote x = 39 := by
      unfold reprQuote
      have n : x.cps.contains 39 = false := by
        cases y : x.cps.contains 39 with
        | false => rfl
        | true =>
          have m : 39 ∈ x.cps := by simpa using y
          exact absurd rfl (okC_lt (h 39 (by simpa using m))).2
      rw [n]
      rfl
    show 39 :: appL x.cps.toList (39 :: acc) = _
    have e : (PyData.str x).shown = reprText x := by simp only [PyData.shown]
    rw [appL_eq, e]
    unfold reprText
    rw [q]
    simp only [Array.toList_push]
    rw [← Array.foldl_toList, repr_fold _ _ h]
    simp
def endT {α : Type} : List α → List Nat → List Nat
  | [_], acc => 44 :: 41 :: acc
  | [], acc => 41 :: acc
  | _ :: _ :: _, acc => 41 :: acc
mutual
def shA : PyData → List Nat → List Nat
  | .int i, acc => intL i acc
  | .str x, acc => strL x acc
  | .tuple xs, acc => 40 :: shAs xs (endT xs acc)
  | .none, acc => PyData.none.shown.cps.toList ++ acc
  | .bool b, acc => (PyData.bool b).shown.cps.toList ++ acc
  | .list xs, acc => (PyData.list xs).shown.cps.toList ++ acc
  | .dict xs, acc => (PyData.dict xs).shown.cps.toList ++ acc
def shAs : List PyData → List Nat → List Nat
  | [], acc => acc
  | [x], acc => shA x acc
  | x :: y :: r, acc => shA x (44 :: 32 :: shAs (y :: r) acc)
end
theorem endT_all : ∀ (xs : List PyData) (acc : List Nat), endT xs acc = endT (PyData.shownAll xs) acc
  | [], _ => by rw [PyData.shownAll]; rfl
  | [_], _ => by rw [PyData.shownAll, PyData.shownAll]; rfl
  | _ :: _ :: _, _ => by rw [PyData.shownAll, PyData.shownAll]; rfl
theorem toList_app (a b : Str) : (a ++ b).cps.toList = a.cps.toList ++ b.cps.toList := by
  show (a.cps ++ b.cps).toList = _
  simp
theorem tupT_one (xs : List Str) (acc : List Nat) : (tupleText xs).cps.toList ++ acc = 40 :: ((Str.join ", " xs).cps.toList ++ endT xs acc) := by
  unfold tupleText
  rw [toList_app, toList_app]
  have e0 : (("(" : String) : Str).cps.toList = [40] := by decide +kernel
  have e1 : ((",)" : String) : Str).cps.toList = [44, 41] := by decide +kernel
  have e2 : ((")" : String) : Str).cps.toList = [41] := by decide +kernel
  rw [e0]
  match xs with
  | [] => simp [e2, endT]
  | [x] => simp [e1, endT]
  | x :: y :: r => simp [e2, endT]
mutual
theorem shA_eq : ∀ (d : PyData) (acc : List Nat), shA d acc = d.shown.cps.toList ++ acc
  | .none, acc => by simp only [shA]
  | .bool b, acc => by simp only [shA]
  | .int i, acc => by rw [shA, intL_eq]
  | .str x, acc => by rw [shA, strL_eq]
  | .list xs, acc => by simp only [shA]
  | .dict xs, acc => by simp only [shA]
  | .tuple xs, acc => by
    have e : (PyData.tuple xs).shown = tupleText (PyData.shownAll xs) := by rw [PyData.shown]
    rw [shA, shAs_eq, e, tupT_one, endT_all]
theorem shAs_eq : ∀ (xs : List PyData) (acc : List Nat), shAs xs acc = (Str.join ", " (PyData.shownAll xs)).cps.toList ++ acc
  | [], acc => by
    rw [shAs, PyData.shownAll]
    rfl
  | [x], acc => by
    rw [shAs, shA_eq]
    simp only [PyData.shownAll, Str.join]
  | x :: y :: r, acc => by
    have e1 : ((", " : String) : Str).cps.toList = [44, 32] := by decide +kernel
    rw [shAs, shA_eq, shAs_eq]
    have e2 : PyData.shownAll (x :: y :: r) = x.shown :: y.shown :: PyData.shownAll r := by rw [PyData.shownAll, PyData.shownAll]
    have e3 : PyData.shownAll (y :: r) = y.shown :: PyData.shownAll r := by rw [PyData.shownAll]
    rw [e2, e3]
    show _ = (x.shown ++ (", " : String) ++ Str.join ", " (y.shown :: PyData.shownAll r)).cps.toList ++ acc
    rw [toList_app, toList_app, e1]
    simp
end
def shQ (d : PyData) : List Nat := shA d []
theorem shQ_eq (d : PyData) : shQ d = d.shown.cps.toList := by
  unfold shQ
  rw [shA_eq, List.append_nil]
end PD
/-! PD29: sorted(x, key=str) of trees: of a dict of trees, of a list. -/
namespace PD
open PySem PySem.Spec L2 PySem.W PySem.Calls
open PyProof.Rows hiding St
variable [WI]
/-! ### the order by texts -/
def isTupD : D → Bool
  | .tuple _ => true
  | _ => false
def strOk (d : D) : Bool := isTupD d && (SeqAt.shaped d && (d.showable && decide (d.shown.length ≤ 100000)))
def keyS (d : D) : D := .str d.shown
def leS (a b : D) : Bool := dataLe false keyS a b
/-- sorted(.., key=str), two trees at most -/
def srtS : List D → Option (List D)
  | [] => some []
  | [a] => if strOk a = true then some [a] else none
  | [a, b] => if (strOk a && strOk b) = true then some (if leS a b = true then [a, b] else [b, a]) else none
  | _ => none
/-- the same, quickly -/
def strOkQ (d : D) : Bool := isTupD d && (SeqAt.shaped d && (d.showable && decide ((shQ d).length ≤ 100000)))
theorem strOkQ_eq (d : D) : strOkQ d = strOk d := by
  unfold strOkQ strOk
  rw [shQ_eq, Array.length_toList]
  rfl
def leQ (a b : D) : Bool := cond (ltL (shQ b) (shQ a)) false true
theorem leQ_eq (a b : D) : leQ a b = leS a b := by
  unfold leQ
  rw [ltL_eq, shQ_eq, shQ_eq]
  show _ = !(decide (b.shown.cps.toList < a.shown.cps.toList) || (!decide (a.shown.cps.toList < b.shown.cps.toList) && false))
  cases decide (b.shown.cps.toList < a.shown.cps.toList) <;> simp
def srtQ : List D → Option (List D)
  | [] => some []
  | [a] => cond (strOkQ a) (some [a]) none
  | [a, b] => cond (strOkQ a && strOkQ b) (some (cond (leQ a b) [a, b] [b, a])) none
  | _ :: _ :: _ :: _ => none
theorem srtQ_eq : ∀ l : List D, srtQ l = srtS l
  | [] => rfl
  | [a] => by
    show cond (strOkQ a) (some [a]) none = if strOk a = true then some [a] else none
    rw [strOkQ_eq]
    cases strOk a <;> rfl
  | [a, b] => by
    show cond (strOkQ a && strOkQ b) (some (cond (leQ a b) [a, b] [b, a])) none = if (strOk a && strOk b) = true then some (if leS a b = true then [a, b] else [b, a]) else none
    rw [strOkQ_eq, strOkQ_eq, leQ_eq]
    cases (strOk a && strOk b) <;> cases leS a b <;> rfl
  | _ :: _ :: _ :: _ => rfl
theorem srt_pairs {α : Type} (le : α → α → Bool) (a b : α) : [a, b].mergeSort le = if le a b = true then [a, b] else [b, a] := by
  simp [List.mergeSort, List.MergeSort.Internal.splitInTwo, List.merge]
theorem srtS_ok {ps : List (V × D)} {ds : List D} (h : srtS (ps.map (·.2)) = some ds) : (∀ p ∈ ps, strOk p.2 = true) ∧ (ps.mergeSort (dataLe false fun p => keyS p.2)).map (·.2) = ds ∧ ps.length ≤ 2 := by
  match ps, h with
  | [], h => cases h; exact ⟨(fun _ h => nomatch h), by simp, by simp⟩
  | [p], h =>
    simp only [List.map_cons, List.map_nil, srtS] at h
    by_cases c : strOk p.2 = true
    · rw [if_pos c] at h
      cases h
      refine ⟨fun q hq => ?_, by simp, by simp⟩
      rw [List.mem_singleton.mp hq]
      exact c
    · rw [if_neg c] at h
      cases h
  | [p, q], h =>
    simp only [List.map_cons, List.map_nil, srtS] at h
    by_cases c : (strOk p.2 && strOk q.2) = true
    · rw [if_pos c] at h
      cases h
      rw [Bool.and_eq_true] at c
      refine ⟨fun r hr => ?_, ?_, by simp⟩
      · rcases List.mem_cons.mp hr with e | hr
        · rw [e]
          exact c.1
        · rw [List.mem_singleton.mp hr]
          exact c.2
      · rw [srt_pairs]
        have e : dataLe false (fun p : V × D => keyS p.2) p q = leS p.2 q.2 := rfl
        rw [e]
        split <;> rfl
    · rw [if_neg c] at h
      cases h
  | _ :: _ :: _ :: _, h => cases h
/-! ### the call -/
theorem sort_tree (a : Addr) : Builtin.«list.sort» ⟨[.ref a], [(Str.ofString "key", .type "str")]⟩ = ksk_tree a (.type "str") false := rfl
/-- the values its are these data -/
def ReadsV (h : Heap) (v : Value) (p : V × D) : Prop := RelV p.1 v ∧ strOk p.2 = true ∧ ∃ a as, v = .ref a ∧ Reads h v p.2 as
theorem strOk_h {d : D} (h : strOk d = true) : isTupD d = true ∧ SeqAt.shaped d = true ∧ d.showable = true ∧ d.shown.length ≤ 100000 := by
  unfold strOk at h
  rw [Bool.and_eq_true, Bool.and_eq_true, Bool.and_eq_true] at h
  exact ⟨h.1, h.2.1, h.2.2.1, of_decide_eq_true h.2.2.2⟩
section
variable {X : Cx} {pins : List (Addr × Obj)} {σ : St} {H : Hp} {s : Shared}
theorem call_str {p : V × D} {v : Value} {A : Around} {E : Value → Shared → Prop} {h0 : Heap} {s : Shared} (hg : A.guards = some []) (hu : A.units + 70 < cLine) (r : ReadsV h0 v p) (hk : ∀ b o, h0.get? b = some o → s.heap.get? b = some o) :
    wpAny (model X.prog X.w) A (call (.type "str") [v]) (KeyPure (keyS p.2) s) E s := by
  obtain ⟨rv, ok, a, as, rfl, rd⟩ := r
  obtain ⟨_, sh, sw, sz⟩ := strOk_h ok
  have dz : p.2.depth ≤ 64 := SeqAt.depth_of_shaped sh
  refine str_of_reads rd sw (PyData.noDict_hsm (PyData.hasDict_of_canLay _ (SeqAt.canLay_of_shaped sh))) hg (by omega) hk (fun h' u tk kp => ⟨h', tk, rfl, kp, .str _ _⟩) (Nat.le_trans sz (by rw [sizeLine_eq]; omega))
theorem sortedS_call {l : Addr} {its : List Value} {ps : List (V × D)} {ds : List D} {Q : VK} (hg : X.A.guards = some []) (hu : X.A.units + 100 < cLine) (I : Inv X pins σ H s) (e : EachIs (ReadsV s.heap) its ps) (hs : srtS (ps.map (·.2)) = some ds)
    (col : ∀ (R : List Value → Shared → Prop) (E' : Value → Shared → Prop), (∀ h' tk, (∀ b o, s.heap.get? b = some o → h'.get? b = some o) → R its { s with heap := h', toks := tk }) → wpAny (model X.prog X.w) X.A.in1 (collect (.ref l)) R E' s)
    (q : ∀ (vs : List V) (p : Addr), vs = (ps.mergeSort (dataLe false fun p => keyS p.2)).map (·.1) → H p = none → Q (.ref p) (upd H p (.lst vs))) :
    wpAny (model X.prog X.w) X.A (call (.builtin "sorted") [.ref l] [(Str.ofString "key", .type "str")]) (EP X pins σ Q) X.xe s := by
  obtain ⟨oks, eds, l2⟩ := srtS_ok hs
  have hz : its.length ≤ sizeLine := by rw [e.length, sizeLine_eq]; omega
  refine call_function_entry_kw kind_sorted plain_sorted entry_sorted (ksk_s1 _ _) ?_
  unfold Builtin.«sorted»
  refine wpAny_bind (m := checkCount "sorted" 1 1 _) (wpAny_pure ?_)
  refine wpAny_bind (col _ _ fun h1 tk1 k1 => ?_)
  refine wpAny_bind (wpAny_newList ?_ hz)
  have hoL : (h1.push (seqObj "list" its.toArray 0)).get? h1.objs.size = some (seqObj "list" its.toArray 0) := Heap.get?_push_size _ rfl
  have kL : ∀ b o, h1.get? b = some o → (h1.push (seqObj "list" its.toArray 0)).get? b = some o := fun b o z => Heap.get?_push_of_some _ z
  show wpAny _ _ _ _ _ { s with heap := h1.push (seqObj "list" its.toArray 0), toks := tk1 }
  refine wpAny_bind (wpAny_holding (wpAny_call_entry_kw slot_list_sort ⟨_, hoL, rfl⟩ entry_list_sort ?_ (ksk_l1 _ _)))
  rw [sort_tree]
  have lenK : ((ps.map fun p => keyS p.2)).length = its.length := by rw [List.length_map, e.length]
  have isStr : ∀ d ∈ (ps.map fun p => keyS p.2), ∃ x, d = PyData.str x := fun d hd => by
    obtain ⟨p, _, rfl⟩ := List.mem_map.mp hd
    exact ⟨_, rfl⟩
  refine keyH_tree (kz := ps.map fun p => keyS p.2) (s := { s with heap := h1.push (seqObj "list" its.toArray 0), toks := tk1 }) hoL lenK hz (fun d hd d' hd' => ?_) (.inr fun d hd => ?_) (fun d hd => ?_)
    (keyH_turns (s := { s with heap := h1.push (seqObj "list" its.toArray 0), toks := tk1 }) (k := fun p : V × D => keyS p.2) e fun v p hv hp h tk kp => ?_) fun h2 tk2 out c kp hD ko => ⟨_, rfl, ?_⟩
  · obtain ⟨x, rfl⟩ := isStr d hd
    obtain ⟨y, rfl⟩ := isStr d' hd'
    rfl
  · obtain ⟨x, rfl⟩ := isStr d hd
    exact ⟨(fun z => nomatch z), fun _ z => nomatch z⟩
  · obtain ⟨x, rfl⟩ := isStr d hd
    show X.A.units + 1 + 1 + (PyData.str x).depth < cLine
    simp only [PyData.depth]
    omega
  · refine call_str (X := X) (A := X.A.in1.in1) (h0 := s.heap) (p := p) hg (by show X.A.units + 1 + 1 + 70 < cLine; omega) hv fun b o z => ?_
    exact kp b o (Nat.ne_of_lt (Heap.lt_size (k1 b o z))) (kL b o (k1 b o z))
  · have I1 : Inv X pins σ H { s with heap := h1, toks := tk1 } := I.kept k1
    have eo := keyedOut_each (fun p : V × D => keyS p.2) ko e
    have ol : out.length ≤ sizeLine := by rw [ko.length lenK]; exact hz
    have vo : Vals ((ps.mergeSort (dataLe false fun p => keyS p.2)).map (·.1)) out := by
      have go : ∀ {us : List Value} {qs : List (V × D)}, EachIs (ReadsV s.heap) us qs → Vals (qs.map (·.1)) us := fun {us qs} z => by
        induction z with
        | nil => exact .nil
        | cons h _ ih => exact .cons h.1 ih
      exact go eo
    refine wpAny_pure ⟨_, rfl, .ref h1.objs.size, _, I1.laid (h' := h2) (t' := tk2) (a := h1.objs.size) (o := .lst ((ps.mergeSort (dataLe false fun p => keyS p.2)).map (·.1))) (fun b o z => kp b o (Nat.ne_of_lt (Heap.lt_size z)) (kL b o z)) (Nat.le_refl _)
      (show ObjOk X.prog X.w _ _ _ (.lst _) from ⟨by rw [vo.length]; exact ol, out, c, vo, hD⟩), rfl, q _ _ rfl (I1.hok.fresh (Nat.le_refl _))⟩
end
/-! ### the readings -/
/-- what is sorted, at a: a list's values, or the keys of a dict of trees -/
def SrcS (X : Cx) (H : Hp) (a : Addr) (ps : List (V × D)) : Prop := SqL X.K H a (ps.map (·.1)) ∨ ∃ xs, KeysAt X H a xs ∧ ps = xs.map fun x => (.ref x.2, x.1.data)
def rSrtS (X : Cx) : List V → List V → Hp → VK → Prop := fun vs zs H Q => ∃ a ps ds, vs = [.ref a] ∧ zs = [.ty "str"] ∧ SrcS X H a ps ∧ (∀ p ∈ ps, Dp X.K H p.1 p.2) ∧ srtS (ps.map (·.2)) = some ds ∧
  ∀ vs p, vs = (ps.mergeSort (dataLe false fun p => keyS p.2)).map (·.1) → H p = none → Q (.ref p) (upd H p (.lst vs))
section
variable {X : Cx} {ex : ExT} {W : WX}
theorem each_of {h : Heap} {pins : List (Addr × Obj)} {σ : St} {H : Hp} {s : Shared} (I : Inv X pins σ H s) : ∀ {ps : List (V × D)} {its : List Value}, (∀ p ∈ ps, strOk p.2 = true) → (∀ p ∈ ps, Dp X.K H p.1 p.2) → Vals (ps.map (·.1)) its → EachIs (ReadsV s.heap) its ps
  | [], _, _, _, r => by cases r; exact .nil
  | p :: ps, _, ok, dp, r => by
    cases r with
    | @cons _ u _ us r1 r2 =>
      refine .cons ⟨r1, ok p List.mem_cons_self, ?_⟩ (each_of (h := h) I (fun p hp => ok p (List.mem_cons_of_mem _ hp)) (fun p hp => dp p (List.mem_cons_of_mem _ hp)) r2)
      obtain ⟨t, sh, _, _⟩ := strOk_h (ok p List.mem_cons_self)
      have d1 := dp p List.mem_cons_self
      obtain ⟨as, rd⟩ := L2.Dp.reads I _ _ _ (d1.kit sh) r1
      have ea : ∃ a, u = .ref a := by
        obtain ⟨v, d⟩ := p
        cases d with
        | tuple ds =>
          cases d1 with
          | @tup a _ _ _ _ => exact ⟨a, r1⟩
        | _ => cases t
      obtain ⟨a, rfl⟩ := ea
      exact ⟨a, as, rfl, rd⟩
theorem cr_sortS (hc : X.calm = true) (hg : X.A.guards = some []) (hu : X.A.units + 100 < cLine) : CallRK X (.builtin "sorted") [Str.ofString "key"] (rSrtS X) := by
  intro pins s σ H vs zs us ws Q I r rz h
  obtain ⟨a, ps, ds, rfl, rfl, src, dp, hs, q⟩ := h
  obtain rfl := Vals.ref1 r
  obtain ⟨w1, rfl, e1⟩ := vals1 rz
  obtain rfl : w1 = Value.type "str" := e1
  obtain ⟨ok, _, l2⟩ := srtS_ok hs
  have h2 : 2 ≤ sizeLine := by rw [sizeLine_eq]; omega
  rcases src with sl | ⟨xs, ka, rfl⟩
  · obtain ⟨its, rv, hl, hz⟩ := I.list sl
    refine sortedS_call hg hu I (each_of (h := s.heap) I ok dp rv) hs (fun R E' hR => collect_list hl.isList ?_ (by rw [← rv.length]; exact hz)) q
    have z := hR ((s.heap.push (seqObj "list" #[] 0)).update s.heap.objs.size (Obj.mapSeq (· ++ its.toArray))) s.toks fun b o e => by
      rw [Heap.get?_update_ne _ _ _ _ (Nat.ne_of_lt (Heap.lt_size e))]
      exact Heap.get?_push_of_some _ e
    exact z
  · obtain ⟨⟨lo, o, es, ep, h1, hx, hd, he⟩, _⟩ := I.hok a _ ka.at_
    have ln : es.size = xs.length := by rw [← Array.length_toList, he, List.length_map]
    have rv : Vals ((xs.map fun x => ((V.ref x.2, x.1.data) : V × D)).map (·.1)) (xs.map fun x => Value.ref x.2) := by
      rw [List.map_map]
      have go : ∀ l : List (NestedKey × Addr), Vals (l.map ((·.1) ∘ fun x => ((V.ref x.2, x.1.data) : V × D))) (l.map fun x => Value.ref x.2) := fun l => by
        induction l with
        | nil => exact .nil
        | cons x l ih => exact .cons rfl ih
      exact go xs
    refine sortedS_call hg hu I (each_of (h := s.heap) I ok dp rv) hs (fun R E' hR => kdu_collect (A := X.A.in1) (kdl_raw lo hx hd) (I.ok.hd hc) h1 (by rw [ln, sizeLine_eq]; rw [List.length_map] at l2; omega) fun h' tk acc kp it => ?_) q
    have ea : acc.toList = xs.map fun x => Value.ref x.2 := by
      have hl : acc.toList.length = xs.length := by rw [Array.length_toList, it.1]; exact ln
      apply List.ext_getElem?
      intro j
      rw [List.getElem?_map]
      cases hj : acc.toList[j]? with
      | none =>
        have z := List.getElem?_eq_none_iff.mp hj
        rw [List.getElem?_eq_none (by omega)]
        rfl
      | some v =>
        obtain ⟨en, hen, hv⟩ := it.2 j v (by rw [← Array.getElem?_toList]; exact hj)
        have qe : es.toList[j]? = some en := by rw [Array.getElem?_toList]; exact hen
        rw [he, List.getElem?_map] at qe
        cases hb : xs[j]? with
        | none => rw [hb] at qe; cases qe
        | some b =>
          rw [hb] at qe
          cases Option.some.inj qe
          rw [hv]
          rfl
    rw [ea]
    exact hR h' tk kp
/-- sorted(e, key=str), e a list of trees -/
def lstD : D → Option (List D)
  | .list ds => some ds
  | _ => none
def fSrtS (f : FE) : FA := fun s => (f s).bind fun d s => R.of ((lstD d).bind srtQ) s
/-- sorted(name, key=str), a dict of trees -/
def fSrtK (i : Nat) : FA := fun s => match s.ρ[i]? with
  | some (some (.kys ks)) => R.of (srtQ ks) s
  | _ => .bad
theorem dpAll_zip {K : PySem.W.Frag} {G : Hp} : ∀ {vs : List V} {ds : List D}, DpAll K G vs ds → (vs.zip ds).map (·.1) = vs ∧ (vs.zip ds).map (·.2) = ds ∧ ∀ p ∈ vs.zip ds, Dp K G p.1 p.2
  | [], [], _ => ⟨rfl, rfl, fun _ h => nomatch h⟩
  | v :: vs, d :: ds, h => by
    cases h with
    | cons h1 h2 =>
      obtain ⟨a, b, c⟩ := dpAll_zip h2
      refine ⟨by rw [List.zip_cons_cons, List.map_cons, a], by rw [List.zip_cons_cons, List.map_cons, b], fun p hp => ?_⟩
      rw [List.zip_cons_cons] at hp
      rcases List.mem_cons.mp hp with e | hp
      · rw [e]
        exact h1
      · exact c p hp
theorem dpAll_of {K : PySem.W.Frag} {G : Hp} : ∀ {ps : List (V × D)}, (∀ p ∈ ps, Dp K G p.1 p.2) → DpAll K G (ps.map (·.1)) (ps.map (·.2))
  | [], _ => .nil
  | p :: ps, h => .cons (h p List.mem_cons_self) (dpAll_of fun q hq => h q (List.mem_cons_of_mem _ hq))
theorem srt_mem {ps : List (V × D)} {p : V × D} (h : p ∈ ps.mergeSort (dataLe false fun p => keyS p.2)) : p ∈ ps := List.mem_mergeSort.mp h
theorem srt_fin {c : Act} {G H : Hp} {σ : St} {s : S} {Q : VK} {ps : List (V × D)} {ds : List D} {vs : List V} {p : Addr} (r : Rel X.K c G H σ s) (dp : ∀ p ∈ ps, Dp X.K G p.1 p.2) (hs : srtS (ps.map (·.2)) = some ds) (ev : vs = (ps.mergeSort (dataLe false fun p => keyS p.2)).map (·.1)) (hp : H p = none)
    (q : Post X.K ex W c G σ (fun ds G' H' s' => ∀ v, Fresh X.K c G' H' σ s' v ds → Q v H') (.ok ds s)) : Q (.ref p) (upd H p (.lst vs)) := by
  obtain ⟨_, e2, _⟩ := srtS_ok hs
  have all := dpAll_of (ps := ps.mergeSort (dataLe false fun p => keyS p.2)) fun x hx => dp x (srt_mem hx)
  rw [e2, ← ev] at all
  obtain ⟨r1, f1⟩ := r.newOwn hp all
  exact q G _ (Same.refl _) r1 _ f1
theorem oSrtS {e : Expr} {f : FE} {p kp sp pos : Pos} {k : Nat} (hc : X.calm = true) (hr : RoomG k X.A) (hm : X.mg "sorted" = none) (hm2 : X.mg "str" = none) (he : PE X e (tE X.K ex W f)) (hg : Gl X "sorted" := by rfl) (hg2 : Gl X "str" := by rfl)
    (hs : starEach [e] X.env = (false, eval e X.env) :: starEach [] X.env := by rfl) (hbk : backTo pos (starEach [e] X.env) = (false, eval e X.env) :: backTo pos (starEach [] X.env) := by rfl) (hpl : (backTo pos (starEach [e] X.env)).any (·.1) = false := by rfl)
    (hall : (backToKw pos (keywordEach [⟨some "key", .Name "str" sp, kp⟩] X.env)).all (·.1.isSome) = true := by rfl) (hnone : (backToKw pos (keywordEach [⟨some "key", .Name "str" sp, kp⟩] X.env)).any (·.1.isNone) = false := by rfl)
    (hks : (backToKw pos (keywordEach [⟨some "key", .Name "str" sp, kp⟩] X.env)).filterMap (·.1) = [Str.ofString "key"] := by rfl) :
    PE X (.Call (.Name "sorted" p) [e] [⟨some "key", .Name "str" sp, kp⟩] pos) (tO X.K ex W (fSrtS f)) :=
  PE.imp (pe_callBK (cr_sortS hc hr.gd (by have := hr.rm.un; omega)) hg hm (by decide +kernel) (pa_cons he pa_nil hs) (pk_cons (pe_bltn (v := .ty "str") hg2 hm2 (by decide +kernel) rfl (by decide) (by decide)) pk_nil) (by decide) (by decide) hbk hpl hall hnone hks) fun σ H Q ⟨c, G, s, r, q⟩ =>
    inE r q fun d s1 G1 H1 v e1 r1 hv q1 => by
      have q1 : Post X.K ex W c G1 σ _ (R.of ((lstD d).bind srtQ) s1) := q1
      rw [show srtQ = srtS from funext srtQ_eq] at q1
      cases d with
      | list ds =>
        cases z : srtS ds with
        | none => rw [show (lstD (.list ds)).bind srtS = srtS ds from rfl, z] at q1; exact q1.elim
        | some out =>
          rw [show (lstD (.list ds)).bind srtS = srtS ds from rfl, z] at q1
          cases hv with
          | @lst a xs _ h1 h2 =>
            obtain ⟨z1, z2, z3⟩ := dpAll_zip h2
            refine ⟨a, xs.zip ds, out, rfl, rfl, .inl (by rw [z1]; exact r1.b.sub.seq h1), fun p hp => (z3 p hp).up r1.b.sub, by rw [z2]; exact z, fun vs p ev hp => ?_⟩
            exact srt_fin r1 z3 (by rw [z2]; exact z) ev hp q1
      | _ => exact q1.elim
theorem oSrtK (i : Nat) {x : Str} {p xp kp sp pos : Pos} {k : Nat} (hw : WI.wd = X.w) (hc : X.calm = true) (hr : RoomG k X.A) (hm : X.mg "sorted" = none) (hm2 : X.mg "str" = none) (hN : X.N[i]? = some x := by rfl) (hv : Vis X.env.scope x := by first | exact Or.inl rfl | exact Or.inr (Or.inl rfl) | exact Or.inr (Or.inr rfl))
    (hd : (x == ("__debug__" : Str)) = false := by decide) (hcd : (x == ("__classdict__" : Str)) = false := by decide) (hg : Gl X "sorted" := by rfl) (hg2 : Gl X "str" := by rfl)
    (hs : starEach [.Name x xp] X.env = (false, eval (.Name x xp) X.env) :: starEach [] X.env := by rfl) (hbk : backTo pos (starEach [.Name x xp] X.env) = (false, eval (.Name x xp) X.env) :: backTo pos (starEach [] X.env) := by rfl) (hpl : (backTo pos (starEach [.Name x xp] X.env)).any (·.1) = false := by rfl)
    (hall : (backToKw pos (keywordEach [⟨some "key", .Name "str" sp, kp⟩] X.env)).all (·.1.isSome) = true := by rfl) (hnone : (backToKw pos (keywordEach [⟨some "key", .Name "str" sp, kp⟩] X.env)).any (·.1.isNone) = false := by rfl)
    (hks : (backToKw pos (keywordEach [⟨some "key", .Name "str" sp, kp⟩] X.env)).filterMap (·.1) = [Str.ofString "key"] := by rfl) :
    PE X (.Call (.Name "sorted" p) [.Name x xp] [⟨some "key", .Name "str" sp, kp⟩] pos) (tO X.K ex W (fSrtK i)) :=
  PE.imp (pe_callBK (cr_sortS hc hr.gd (by have := hr.rm.un; omega)) hg hm (by decide +kernel) (pa_cons (pe_var hN hv hd hcd) pa_nil hs) (pk_cons (pe_bltn (v := .ty "str") hg2 hm2 (by decide +kernel) rfl (by decide) (by decide)) pk_nil) (by decide) (by decide) hbk hpl hall hnone hks) fun σ H Q ⟨c, G, s, r, q⟩ => by
    have q : Post X.K ex W c G σ _ (match s.ρ[i]? with
      | some (some (.kys ks)) => R.of (srtQ ks) s
      | _ => .bad) := q
    rw [show srtQ = srtS from funext srtQ_eq] at q
    split at q
    · rename_i ks hks
      obtain ⟨a, xs, hv', hH, ok⟩ := r.kysAt hks
      cases z : srtS ks with
      | none => rw [z] at q; exact q.elim
      | some out =>
        rw [z] at q
        have e2 : (xs.map fun x => ((V.ref x.2, x.1.data) : V × D)).map (·.2) = ks := by
          rw [List.map_map, ok.eq]
          rfl
        have dp : ∀ p ∈ xs.map fun x => ((V.ref x.2, x.1.data) : V × D), Dp X.K G p.1 p.2 := fun p hp => by
          obtain ⟨x, hx, rfl⟩ := List.mem_map.mp hp
          exact ok.at_ x hx
        refine ⟨_, hv', a, _, out, rfl, rfl, .inr ⟨xs, ⟨by rw [← hw]; exact hH, ok.nd, fun x hx => (ok.at_ x hx).up r.b.sub⟩, rfl⟩, fun p hp => (dp p hp).up r.b.sub, by rw [e2]; exact z, fun vs p ev hp => ?_⟩
        exact srt_fin r dp (by rw [e2]; exact z) ev hp q
    · exact q.elim
end
end PD
/-! PD30: try with one or two clauses «except X as n: return e» and else. -/
namespace PD
open PySem PySem.Spec L2
open PyProof.Rows hiding St
variable [WI]
/-- the clauses «except x as n: ..», one behind another -/
inductive HdN (X : Cx) (n : Str) : List ExceptHandler → List (Value × (Addr → Value → Option Addr → TS)) → Prop
  | nil : HdN X n [] []
  | cons {x : Str} {k : Value} {ts : Addr → Value → Option Addr → TS} {b : Stmt} {bs : List Stmt} {np hp : Pos} {more : List ExceptHandler} {l : List (Value × (Addr → Value → Option Addr → TS))} (nm : Names X x k)
      (su : ∀ (q : Addr) (oq : Obj) (cls : Value) (d : Option Addr) (pn : List (Addr × Obj)), Zc cls d oq → (∃ vs, oq.data = .fields vs) → PSs (X.suite q ((q, oq) :: pn)) (b :: bs) (ts q cls d)) (rest : HdN X n more l) :
      HdN X n (.ExceptHandler (some (.Name x np)) (some n) (b :: bs) hp :: more) ((k, ts) :: l)
def endN (i : Nat) (En : Ends) : Ends := { nx := fun τ h => En.nx (τ.set i none) h, rt := En.rt, bk := fun τ h => En.bk (τ.set i none) h, ct := fun τ h => En.ct (τ.set i none) h }
def wN (K : PySem.W.Frag) (i : Nat) (Wout : WX) (En : Ends) : List (Value × (Addr → Value → Option Addr → TS)) → WX
  | [] => Wout
  | (k, ts) :: r => fun cls d τ h => ∃ b, PySem.W.exmOne K cls k = some b ∧ (b = true → ∀ q, h q = none → ts q cls d (endN i En) (τ.set i (some (.ref q))) h) ∧ (b = false → wN K i Wout En r cls d τ h)
theorem ps_tryN {X : Cx} {n : Str} {i : Nat} {body orelse : List Stmt} {h0 : ExceptHandler} {hds : List ExceptHandler} {l : List (Value × (Addr → Value → Option Addr → TS))} {pos : Pos} {tb : WX → TS} {u : TS} {Wout : WX} (els : PSs X orelse u)
    (stk : X.stack = X.env :: X.outer) (fr : X.env.frame = some X.env.locals) (nd : X.N.Nodup) (hi : X.N[i]? = some n) (loc : X.env.kindOf n = some .local) (tk : Takes X Wout)
    (hb : ∀ (W : WX) (pn : List (Addr × Obj)) (xe : Value → Shared → Prop), Takes (X.tr pn xe) W → PassesOwn (model X.prog X.w) X.A X.env xe → PSs (X.tr pn xe) body (tb W)) (hh : HdN X n (h0 :: hds) l) :
    PS X (.Try body (h0 :: hds) orelse [] pos) (fun En σ H => tb (wN X.K i Wout En l) { En with nx := u En } σ H) := by
  refine ⟨fun pins s σ H En I q => ?_⟩
  have ok := I.ok
  have frs0 : X.A.frames = some (X.env :: X.outer) := ok.frames.trans (by rw [stk])
  have lc : Loc X.env.scope n := .inl loc
  have B0 := (hb (wN X.K i Wout En l) (X.pn ++ pins) (fun e s1 => wpAny (model X.prog X.w) X.A (noteFrame e X.env) (fun _ s2 => wpAny (model X.prog X.w) X.A (setFlight e none) (fun _ s3 => wpAny (model X.prog X.w) X.A (handleBy e X.env (h0 :: hds)) (SP X pins En) X.xe s3) X.xe s2) X.xe s1) (fun v s' xx => by
    obtain ⟨q, B, sI, pins', τ, h, cls, d, rfl, J', nb, up, sky, nq, os, ag, w⟩ := xx
    have J : Inv X pins τ h sI := J'.ofTry ok
    rw [stk] at sky
    show wpAny (model X.prog X.w) X.A (noteFrame (.ref q) X.env) _ _ _
    refine Sky.land Zc.steady frs0 fr sky fun g3 fl3 up3 => ?_
    have J3 : Inv X pins τ h { s' with heap := g3 } := J.landed nb fl3.1 (up.trans up3) os ag
    obtain ⟨o3, v3, e3, z3, d3⟩ := fl3.there
    have off : q ∉ frs (X.env :: X.outer) := fun hm => by
      obtain ⟨_, o', e', nf⟩ := fl3.2.2.1.mem hm
      rw [e3] at e'
      cases e'
      exact nf _ d3
    have offL : q ≠ X.env.locals := fun z => off (List.mem_filterMap.mpr ⟨X.env, List.mem_cons_self, fr.trans (by rw [z])⟩)
    have offF : q ∉ X.fs := fun hm => by
      obtain ⟨e, he, z⟩ := List.mem_filterMap.mp hm
      exact off (List.mem_filterMap.mpr ⟨e, List.mem_cons_of_mem _ he, z⟩)
    have S3 := J3.suite e3 d3 nq offL offF
    suffices go : ∀ {hs' : List ExceptHandler} {l' : List (Value × (Addr → Value → Option Addr → TS))}, HdN X n hs' l' → wN X.K i Wout En l' cls d τ h → wpAny (model X.prog X.w) X.A (handleBy (.ref q) X.env hs') (SP X pins En) X.xe { s' with heap := g3 } from go hh w
    intro hs' l' hk
    induction hk with
    | nil =>
      intro w
      obtain ⟨k1, k2, k3, oe, vs, T, oT, ts', he, hz, hd, h1, hr⟩ := id fl3
      have out : wpAny (model X.prog X.w) X.A (setFlight (.ref q) X.env.frame) (fun _ s4 => wpAny (model X.prog X.w) X.A (throw (.ref q) : Sem Flow) (SP X pins En) X.xe s4) X.xe { s' with heap := g3 } := by
        rw [fr]
        exact HandSPX.setFlight_upZ fl3 fun g4 hg4 up4 => wpAny_throw (tk _ _ ⟨q, B, sI, pins, τ, h, cls, d, rfl, J, nb, (up.trans up3).trans up4, .inr (.inr (by rw [stk]; exact hg4)), nq, os, ag, w⟩)
      refine wpAny_handleBy_nil ?_
      unfold PySem.passOn
      refine wpAny_bind (wpAny_field he hd h1 ?_)
      have nn : ¬ ((Value.ref T == Value.none) = true) := by simp
      rw [if_neg nn]
      first
        | exact wpAny_bind (wpAny_pure (wpAny_bind out))
        | exact wpAny_bind out
    | @cons x k ts b bs np hp more l2 nm su rest ih =>
      rintro ⟨y, ey, yes, no⟩
      have lt : PySem.W.Looks (model X.prog X.w) g3 (typeOf (.ref q)) cls := fun A Q E s kk z => wpAny_typeOf_ref (kk _ _ e3) (by rw [z3.1]; exact z)
      have lm := PySem.W.exm_one (M := model X.prog X.w) J3.kIn lt ey
      refine wpAny_handleBy_cons (codeAny_handlers_test ?_) (fun z => nomatch z)
      have named : ∀ {Q : Value → Shared → Prop} {E : Value → Shared → Prop}, Q k { s' with heap := g3 } → wpAny (model X.prog X.w) (X.A.mark (some (.ref q))) (eval (.Name x np) X.env) Q E { s' with heap := g3 } := fun {Q E} z => by
        rcases nm with ⟨hg, hdb, hm | ⟨hm, hv, hnn⟩⟩
        · exact ld_glob (X := X.suite q ((q, o3) :: (X.pn ++ pins))) S3 hg hm z hdb
        · exact ld_blt (X := X.suite q ((q, o3) :: (X.pn ++ pins))) S3 hg hm hv z hnn hdb
      refine named (lm.here ?_)
      cases y with
      | false => exact ih (no rfl)
      | true =>
        refine codeAny_handlers_suite_as (HandSPX.lands_againZ fl3 fun g4 fl4 up4 => ?_)
        obtain ⟨o4, v4, e4, z4, d4⟩ := fl4.there
        have S4 := (J.landed (s' := { s' with heap := g4 }) nb fl4.1 ((up.trans up3).trans up4) os ag).suite e4 d4 nq offL offF
        refine store_ok (X := X.suite q ((q, o4) :: (X.pn ++ pins))) (v := .ref q) S4 nd hi lc rfl (fun s5 S5 => ?_) (.inr loc)
        refine wpAny_mono ((su q o4 cls d (X.pn ++ pins) z4 ⟨_, d4⟩).run [] s5 _ h _ S5 (yes rfl q nq)) (fun f s6 sp => ?_) (fun _ _ z => z.elim)
        match f, sp with
        | .next, ⟨τ6, h6, S6, q6⟩ => exact gone_ok (S6.unsuite ok) nd hi loc fun s7 J7 => ⟨_, _, J7, q6⟩
        | .brk, ⟨τ6, h6, S6, q6⟩ => exact gone_ok (S6.unsuite ok) nd hi loc fun s7 J7 => ⟨_, _, J7, q6⟩
        | .cont, ⟨τ6, h6, S6, q6⟩ => exact gone_ok (S6.unsuite ok) nd hi loc fun s7 J7 => ⟨_, _, J7, q6⟩
        | .ret v, ⟨v6, τ6, h6, S6, r6, q6⟩ => exact gone_ok (S6.unsuite ok) nd hi loc fun s7 J7 => ⟨_, _, _, J7, r6, q6⟩) PassesOwn.looking).run [] s σ H { En with nx := u En } (I.toTry _) q
  refine wpAny_Try_except (wpAny_mono B0 (fun f s1 sp => ?_) fun e s1 he => he)
  match f, sp with
  | .next, ⟨τ, h, J, z⟩ => exact els.run pins s1 τ h En (J.ofTry ok) z
  | .brk, ⟨τ, h, J, z⟩ => exact ⟨τ, h, J.ofTry ok, z⟩
  | .cont, ⟨τ, h, J, z⟩ => exact ⟨τ, h, J.ofTry ok, z⟩
  | .ret v, ⟨x, τ, h, J, r, z⟩ => exact ⟨x, τ, h, J.ofTry ok, r, z⟩
/-! ### the state of data -/
/-- body; what is made of an exception's fields, by its kind; else -/
def sTryN (i : Nat) (fb : FO) (l : List (Nat × (List D → D))) (fo : FO) : FO := fun s => match fb s with
  | .exc k as s' => if i < s'.ρ.length then match l.lookup k with
    | some g => .rt (g as) (s'.drop i)
    | none => .bad
    else .bad
  | .nx s' => fo s'
  | o => o
section
variable {X : Cx} {ex : ExT} {Wout : WX} {x1 x2 n : Str} {C1 f1 C2 f2 : Addr} {fs1 fs2 : List Str} {k1 k2 i : Nat} {body orelse : List Stmt} {e1 e2 : Expr} {fb fo : FO} {g1 g2 : List D → D} {te1 te2 : Addr → Value → Option Addr → TE} {np1 rp1 np2 rp2 pos hp1 hp2 : Pos}
/-- where an exception of a kind lands -/
theorem tryN_land {c : Act} {G : Hp} {En : Ends} {k : Nat} {as : List D} {s' : S} {g : List D → D} {te : Addr → Value → Option Addr → TE} {cls : Value} {dx : Option Addr} {σ : St} {G' H' : Hp} {q : Addr} (hv : HV X.K ex k i te g) (hl : i < s'.ρ.length) (r : Rel X.K c G' H' σ s') (eG : Same G G') (E : ExcIs X.K ex k as cls dx G' H')
    (h : PostO X.K ex Wout c G En (.rt (g as) (s'.drop i))) : tRet (te q cls dx) (endN i En) (σ.set i (some (.ref q))) H' := by
  have r2 := r.over i (some (.ref q))
  have hl' : i < σ.length := by rw [← r.len]; exact hl
  exact hv r2 (by rw [List.length_set]; exact hl') (List.getElem?_set_self hl') E fun v G2 H2 e2 r3 _ hd => h v _ G2 H2 (eG.trans e2) r3 hd
theorem cls_of {C : Addr} {fs : List Str} {k : Nat} {as : List D} {cls : Value} {dx : Option Addr} {G H : Hp} (hex : ex k = some (C, fs)) (E : ExcIs X.K ex k as cls dx G H) : cls = .ref C := by
  obtain ⟨C', names, d, fl, vs, z1, z2, _⟩ := E
  rw [hex] at z1
  cases z1
  exact z2
theorem kTry1E (hs : X.stack = X.env :: X.outer) (hf : X.env.frame = some X.env.locals) (hN : X.N.Nodup) (hi : X.N[i]? = some n) (hln : X.env.kindOf n = some .local) (T1 : XCls X.K X.mg x1 C1 f1 fs1) (hex1 : ex k1 = some (C1, fs1)) (tk : Takes X Wout)
    (hb : ∀ (W : WX) (pn : List (Addr × Obj)) (xe : Value → Shared → Prop), Takes (X.tr pn xe) W → PSs (X.tr pn xe) body (tS X.K ex W fb)) (ho : PSs X orelse (tS X.K ex Wout fo))
    (hsu1 : ∀ (a : Addr) (oe : Obj) (cls : Value) (d : Option Addr) (pn : List (Addr × Obj)), Zc cls d oe → (∃ vs, oe.data = .fields vs) → PE (X.suite a ((a, oe) :: pn)) e1 (te1 a cls d))
    (hv1 : HV X.K ex k1 i te1 g1) (hg1 : Gl X x1 := by rfl) (hdb1 : (x1 == ("__debug__" : Str)) = false := by decide) :
    PS X (.Try body [.ExceptHandler (some (.Name x1 np1)) (some n) [.Return (some e1) rp1] hp1] orelse [] pos) (tS X.K ex Wout (sTryN i fb [(k1, g1)] fo)) := by
  refine PS.imp (ps_tryN (tb := fun W => tS X.K ex W fb) (l := [(.ref C1, fun a cls d => tRet (te1 a cls d))]) (Wout := Wout) ho hs hf hN hi hln tk (fun W pn xe tk' _ => hb W pn xe tk')
    (.cons ⟨hg1, hdb1, .inl T1.gC⟩ (fun a oe cls d pn hz hf' => pss_one (ps_ret (hsu1 a oe cls d pn hz hf'))) .nil)) fun En σ H ⟨c, G, s, r, h⟩ => ?_
  refine ⟨c, G, s, r, ?_⟩
  unfold sTryN at h
  cases hfb : fb s with
  | nx s' =>
    rw [hfb] at h
    exact fun σ' G' H' eG r' => ⟨c, G', s', r', PostO.up h eG⟩
  | rt d s' => rw [hfb] at h; exact h
  | bk s' => rw [hfb] at h; exact h
  | ct s' => rw [hfb] at h; exact h
  | bad => rw [hfb] at h; exact h.elim
  | exc k as s' =>
    rw [hfb] at h
    dsimp only at h
    split at h
    case isFalse => exact h.elim
    case isTrue hl =>
      by_cases hk : k = k1
      · subst hk
        rw [List.lookup_cons_self] at h
        intro cls dx σ' G' H' eG r' E
        obtain rfl := cls_of hex1 E
        exact ⟨true, T1.te, fun _ q _ => tryN_land hv1 hl r' eG E h, fun z => nomatch z⟩
      · rw [List.lookup_cons, show (k == k1) = false from beq_false_of_ne hk] at h
        exact h.elim
theorem kTry2E (hs : X.stack = X.env :: X.outer) (hf : X.env.frame = some X.env.locals) (hN : X.N.Nodup) (hi : X.N[i]? = some n) (hln : X.env.kindOf n = some .local) (T1 : XCls X.K X.mg x1 C1 f1 fs1) (hex1 : ex k1 = some (C1, fs1)) (T2 : XCls X.K X.mg x2 C2 f2 fs2) (hex2 : ex k2 = some (C2, fs2))
    (apart : PySem.W.exmOne X.K (.ref C2) (.ref C1) = some false) (tk : Takes X Wout)
    (hb : ∀ (W : WX) (pn : List (Addr × Obj)) (xe : Value → Shared → Prop), Takes (X.tr pn xe) W → PSs (X.tr pn xe) body (tS X.K ex W fb)) (ho : PSs X orelse (tS X.K ex Wout fo))
    (hsu1 : ∀ (a : Addr) (oe : Obj) (cls : Value) (d : Option Addr) (pn : List (Addr × Obj)), Zc cls d oe → (∃ vs, oe.data = .fields vs) → PE (X.suite a ((a, oe) :: pn)) e1 (te1 a cls d))
    (hsu2 : ∀ (a : Addr) (oe : Obj) (cls : Value) (d : Option Addr) (pn : List (Addr × Obj)), Zc cls d oe → (∃ vs, oe.data = .fields vs) → PE (X.suite a ((a, oe) :: pn)) e2 (te2 a cls d))
    (hv1 : HV X.K ex k1 i te1 g1) (hv2 : HV X.K ex k2 i te2 g2) (hg1 : Gl X x1 := by rfl) (hg2 : Gl X x2 := by rfl) (hdb1 : (x1 == ("__debug__" : Str)) = false := by decide) (hdb2 : (x2 == ("__debug__" : Str)) = false := by decide) :
    PS X (.Try body [.ExceptHandler (some (.Name x1 np1)) (some n) [.Return (some e1) rp1] hp1, .ExceptHandler (some (.Name x2 np2)) (some n) [.Return (some e2) rp2] hp2] orelse [] pos) (tS X.K ex Wout (sTryN i fb [(k1, g1), (k2, g2)] fo)) := by
  refine PS.imp (ps_tryN (tb := fun W => tS X.K ex W fb) (l := [(.ref C1, fun a cls d => tRet (te1 a cls d)), (.ref C2, fun a cls d => tRet (te2 a cls d))]) (Wout := Wout) ho hs hf hN hi hln tk (fun W pn xe tk' _ => hb W pn xe tk')
    (.cons ⟨hg1, hdb1, .inl T1.gC⟩ (fun a oe cls d pn hz hf' => pss_one (ps_ret (hsu1 a oe cls d pn hz hf'))) (.cons ⟨hg2, hdb2, .inl T2.gC⟩ (fun a oe cls d pn hz hf' => pss_one (ps_ret (hsu2 a oe cls d pn hz hf'))) .nil))) fun En σ H ⟨c, G, s, r, h⟩ => ?_
  refine ⟨c, G, s, r, ?_⟩
  unfold sTryN at h
  cases hfb : fb s with
  | nx s' =>
    rw [hfb] at h
    exact fun σ' G' H' eG r' => ⟨c, G', s', r', PostO.up h eG⟩
  | rt d s' => rw [hfb] at h; exact h
  | bk s' => rw [hfb] at h; exact h
  | ct s' => rw [hfb] at h; exact h
  | bad => rw [hfb] at h; exact h.elim
  | exc k as s' =>
    rw [hfb] at h
    dsimp only at h
    split at h
    case isFalse => exact h.elim
    case isTrue hl =>
      by_cases hk : k = k1
      · subst hk
        rw [List.lookup_cons_self] at h
        intro cls dx σ' G' H' eG r' E
        obtain rfl := cls_of hex1 E
        exact ⟨true, T1.te, fun _ q _ => tryN_land hv1 hl r' eG E h, fun z => nomatch z⟩
      · rw [List.lookup_cons, show (k == k1) = false from beq_false_of_ne hk] at h
        dsimp only at h
        by_cases hk2 : k = k2
        · subst hk2
          rw [List.lookup_cons_self] at h
          intro cls dx σ' G' H' eG r' E
          obtain rfl := cls_of hex2 E
          exact ⟨false, apart, (fun z => nomatch z), fun _ => ⟨true, T2.te, fun _ q _ => tryN_land hv2 hl r' eG E h, fun z => nomatch z⟩⟩
        · rw [List.lookup_cons, show (k == k2) = false from beq_false_of_ne hk2] at h
          exact h.elim
end
end PD
/-! PD31: expressions that only look at lists that grow later; self.f op= e; text.find; xs[-2::-1]; C(..).m(). -/
namespace PD
open PySem PySem.Spec L2
open PyProof.Rows hiding St
variable [WI]
/-! ### lists that grow are lent to an expression -/
def frzE : Option Ent → Option Ent
  | some (.val d) => some (.val d)
  | some (.own ds) => some (.val (.list ds))
  | some (.dic es) => some (.val (dicD es))
  | some .hdl => some .hdl
  | _ => none
def frzS (s : S) : S := ⟨s.ρ.map frzE, s.w⟩
def fLent (f : FE) : FE := fun s => match f (frzS s) with
  | .ok d s' => if atomD d = true then .ok d { s with w := ⟨s.w.ns, s'.w.k⟩ } else .bad
  | _ => .bad
theorem Rel.lend {K : PySem.W.Frag} {c : Act} {G H : Hp} {σ : St} {s : S} (r : Rel K c G H σ s) : Rel K ⟨c.wa, c.sc, star c H, H, 0, []⟩ (star c H) H σ (frzS s) := by
  have at_ : ∀ (i : Nat) e, (frzS s).ρ[i]? = some (some e) → ∃ e0, s.ρ[i]? = some (some e0) ∧ frzE (some e0) = some e := fun i e q => by
    have q : (s.ρ.map frzE)[i]? = some (some e) := q
    rw [List.getElem?_map] at q
    cases z : s.ρ[i]? with
    | none => rw [z] at q; cases q
    | some o =>
      rw [z] at q
      have q : frzE o = some e := by simpa using q
      cases o with
      | none => cases q
      | some e0 => exact ⟨e0, rfl, q⟩
  have noOb : ∀ (i : Nat), ¬ ObAt (frzS s) i := fun i ⟨e, q, b⟩ => by
    obtain ⟨e0, _, h⟩ := at_ i e q
    cases e0 <;> cases h <;> cases b
  refine ⟨r.baseStar, by rw [← r.len]; exact List.length_map _, fun i e q => ?_, fun i _ _ _ h => absurd h (noOb i)⟩
  obtain ⟨e0, h0, h⟩ := at_ i e q
  cases e0 with
  | val d =>
    cases h
    exact r.lookStar (d := d) (by unfold PD.look; rw [h0])
  | own ds =>
    cases h
    exact r.lookStar (d := .list ds) (by unfold PD.look; rw [h0])
  | dic es =>
    cases h
    exact r.lookStar (d := dicD es) (by unfold PD.look; rw [h0])
  | hdl =>
    cases h
    obtain ⟨v, hv, he⟩ := r.slot i _ h0
    exact ⟨v, hv, he⟩
  | ins _ _ _ => cases h
  | tab _ _ => cases h
  | kys _ => cases h
section
variable {X : Cx} {ex : ExT} {W : WX}
theorem eLent {e : Expr} {f : FE} (he : PE X e (tE X.K ex W f)) : PE X e (tE X.K ex W (fLent f)) := PE.imp he fun σ H Q ⟨c, G, s, r, h⟩ => by
  refine ⟨_, _, frzS s, r.lend, ?_⟩
  unfold fLent at h
  cases z : f (frzS s) with
  | ok d s' =>
    rw [z] at h
    dsimp only at h
    by_cases ha : atomD d = true
    · rw [if_pos ha] at h
      exact fun G2 H2 _ r2 v hv => h G H2 (Same.refl _) (r.back r2.b) v (Dp.atom hv ha)
    · rw [if_neg ha] at h
      exact h.elim
  | exc k as s' => rw [z] at h; exact h.elim
  | bad => rw [z] at h; exact h.elim
end
/-! ### name.f op= e -/
def sFldA (z : Int → Int → Int) (cn : Str) (i : Nat) (f : Str) (g : FE) : FO := fun s => match insAt cn s i with
  | some (_, fs) => match fs.lookup f with
    | some (.int n) => (g s).stm fun d s => match d with
      | .int m => match insAt cn s i with
        | some (b, fs) => if fs.length < 1000 then .nx (s.put i (.ins b cn (putFD f (.int (z n m)) fs))) else .bad
        | none => .bad
      | _ => .bad
    | _ => .bad
  | none => .bad
section
variable {X : Cx} {ex : ExT} {W : WX}
theorem kFldA (i : Nat) {C : Addr} {cn f x : Str} {fns : List Str} {e : Expr} {g : FE} {op : Operator} {rd : V → V → Hp → VK → Prop} {z : Int → Int → Int} {p pos' pos : Pos} (hop : InOp X op rd) (hrd : ∀ n m H Q, Q (.int (z n m)) H → rd (.int n) (.int m) H Q) (T : ClsF X.K cn C fns) (hg : PE X e (tE X.K ex W g)) (hf : f ∈ fns := by decide)
    (hN : X.N[i]? = some x := by rfl) (hv : Vis X.env.scope x := by first | exact Or.inl rfl | exact Or.inr (Or.inl rfl) | exact Or.inr (Or.inr rfl)) (hd : (x == ("__debug__" : Str)) = false := by decide) (hcd : (x == ("__classdict__" : Str)) = false := by decide) :
    PS X (.AugAssign (.Attribute (.Name x p) f pos') op e pos) (tS X.K ex W (sFldA z cn i f g)) := PS.imp (ps_fldaug (pe_var hN hv hd hcd) hg hop) fun En σ H ⟨c, G, s, r, h⟩ => by
  have h : PostO X.K ex W c G En (match insAt cn s i with
    | some (_, fs) => match fs.lookup f with
      | some (.int n) => (g s).stm fun d s => match d with
        | .int m => match insAt cn s i with
          | some (b, fs) => if fs.length < 1000 then .nx (s.put i (.ins b cn (putFD f (.int (z n m)) fs))) else .bad
          | none => .bad
        | _ => .bad
      | _ => .bad
    | none => .bad) := h
  cases y0 : insAt cn s i with
  | none => rw [y0] at h; exact h.elim
  | some bf0 =>
    obtain ⟨b0, fs0⟩ := bf0
    rw [y0] at h
    dsimp only at h
    cases y1 : fs0.lookup f with
    | none => rw [y1] at h; exact h.elim
    | some d0 =>
      rw [y1] at h
      cases d0 with
      | int n =>
        dsimp only at h
        obtain ⟨v0, hv0, ⟨q0, ho0, rfl, _, _, _, h4, C', dx0, fvs0, hn0, rfl, hpr0⟩, _⟩ := r.slot i _ (insAt_eq y0)
        have eC : C' = C := by
          have := hn0.symm.trans T.at_
          cases this
          rfl
        subst eC
        obtain ⟨u0, hu0, hd0⟩ := (hpr0.look f).1 _ y1
        cases hd0
        refine ⟨_, hv0, q0, C', dx0, fvs0, .int n, rfl, h4, T.cl, T.no f hf, hu0, soE r h fun d s1 G1 H1 v e1 r1 hvd h1 => ?_⟩
        cases d with
        | int m =>
          cases hvd
          refine hrd n m H1 _ ?_
          dsimp only at h1
          cases y2 : insAt cn s1 i with
          | none => rw [y2] at h1; exact h1.elim
          | some bf =>
            obtain ⟨b, fs⟩ := bf
            rw [y2] at h1
            dsimp only at h1
            by_cases hl : fs.length < 1000
            · rw [if_pos hl] at h1
              obtain ⟨q, ho, hq, r2, b2, ⟨⟨q', ho', e', k1, k2, k3, k4, C2, dx, fvs, hn, rfl, hpr⟩, hs⟩⟩ := r1.takeOb (insAt_eq y2) rfl
              cases e'
              rw [hv0] at hq
              cases hq
              have eC2 : C2 = C' := by
                have := hn.symm.trans hn0
                cases this
                rfl
              subst eC2
              obtain ⟨r3, b3⟩ := r2.setBeside b2 (.ins C2 dx (L2.putF f (.int (z n m)) fvs))
              have r4 := r3.backOb (e := .ins b cn (putFD f (.int (z n m)) fs)) hv0 b3.ne ⟨⟨q0, _, rfl, b3.g, b3.h0, b3.wa, b3.at_, C2, dx, _, hn, rfl, hpr.putF (.int _)⟩, hs⟩
              exact ⟨dx, fvs, k4, by rw [hpr.len]; exact hl, h1 σ G1 _ (Same.refl _) r4⟩
            · rw [if_neg hl] at h1
              exact h1.elim
        | _ => exact h1.elim
      | _ => exact h.elim
theorem rAdd_ok (n m : Int) (H : Hp) (Q : VK) (q : Q (.int (n + m)) H) : rAdd (.int n) (.int m) H Q := ⟨n, m, rfl, rfl, q⟩
theorem rSub_ok (n m : Int) (H : Hp) (Q : VK) (q : Q (.int (n - m)) H) : rSub (.int n) (.int m) H Q := ⟨n, m, rfl, rfl, q⟩
end
/-! ### text.find(text) -/
def fFind (f g : FE) : FE := fun s => (f s).bind fun d s => match d with
  | .str a => (g s).bind fun e s => match e with
    | .str b => .ok (.int (findQ a b)) s
    | _ => .bad
  | _ => .bad
section
variable {X : Cx} {ex : ExT} {W : WX}
theorem eFind {o e : Expr} {f g : FE} {apos pos : Pos} (ho : PE X o (tE X.K ex W f)) (he : PE X e (tE X.K ex W g)) (hs : starEach [e] X.env = [(false, eval e X.env)] := by rfl) (hbase : attributeBase o "find" X.env (eval o X.env) = eval o X.env := by rfl) (hline : (apos.endLine == pos.line) = true := by rfl) :
    PE X (.Call (.Attribute o "find" apos) [e] [] pos) (tE X.K ex W (fFind f g)) :=
  PE.imp (pe_m1 F.slot_str_find F.type_str_find mt_find ho he hs hbase hline) fun σ H Q ⟨_, _, _, r, h⟩ => inE r h fun d s1 G1 H1 v e1 r1 hv h1 => by
    cases d with
    | str a =>
      cases hv
      refine ⟨⟨_, rfl⟩, inE r1 h1 fun b s2 G2 H2 u e2 r2 hu h2 => ?_⟩
      cases b with
      | str b =>
        cases hu
        exact ⟨a, b, rfl, rfl, by rw [← findQ_eq]; exact h2.val r2 (.int _)⟩
      | _ => exact h2.elim
    | _ => exact h1.elim
end
/-! ### xs[-2::-1] -/
theorem rev2_bounds (n : Nat) : sliceBounds (some (-2)) none (some (-1)) n = (((n - 1 : Nat) : Int) - 1, -1, -1) := by
  unfold sliceBounds
  simp
  omega
theorem rev2_pick (its : List Value) : slicePick its.toArray (some (-2)) none (some (-1)) = (its.take (its.length - 1)).reverse.toArray := by
  unfold slicePick
  have e0 : its.toArray.size = its.length := List.size_toArray
  rw [rev2_bounds, e0]
  show ((sliceRange (((its.length - 1 : Nat) : Int) - 1) (-1) (-1)).filterMap (its.toArray[·]?)).toArray = _
  rw [PySem.W.krv_sliceRange]
  have e1 : ∀ m : Nat, m ≤ its.length → (((List.range m).map fun k => m - 1 - k).filterMap (its.toArray[·]?)) = (its.take m).reverse := fun m hm => by
    induction m with
    | zero => rfl
    | succ m ih =>
      have e2 : ((List.range (m + 1)).map fun k => m + 1 - 1 - k) = m :: (List.range m).map fun k => m - 1 - k := by
        rw [List.range_succ_eq_map, List.map_cons, List.map_map]
        have h0 : m + 1 - 1 - 0 = m := by omega
        rw [h0]
        refine congrArg (m :: ·) (List.map_congr_left fun k _ => ?_)
        show m + 1 - 1 - (k + 1) = m - 1 - k
        omega
      have hm' : m < its.length := hm
      have e3 : its.toArray[m]? = some its[m] := by simp [hm']
      have e4 : its.take (m + 1) = its.take m ++ [its[m]] := by
        rw [List.take_succ, List.getElem?_eq_getElem hm']
        rfl
      rw [e2, List.filterMap_cons, ih (by omega), e3, e4, List.reverse_append]
      rfl
  rw [e1 _ (Nat.sub_le _ _)]
def tRev2 (K : PySem.W.Frag) (te : TE) : TE := fun σ H Q => te σ H fun x H1 => ∃ a xs, x = .ref a ∧ SqL K H1 a xs ∧ ∀ p, H1 p = none → Q (.ref p) (upd H1 p (.lst (xs.take (xs.length - 1)).reverse))
theorem vals_rev2 {xs : List V} {us : List Value} (r : Vals xs us) : Vals (xs.take (xs.length - 1)).reverse (us.take (us.length - 1)).reverse := by
  have z : xs.length = us.length := r.length
  rw [z]
  have t := Vals.take (us.length - 1) r
  have rev : ∀ {xs : List V} {us : List Value}, Vals xs us → Vals xs.reverse us.reverse := fun {xs us} h => by
    induction h with
    | nil => exact .nil
    | cons h1 _ ih =>
      rw [List.reverse_cons, List.reverse_cons]
      exact ih.append (.cons h1 .nil)
  exact rev t
section
variable {X : Cx} {ex : ExT} {W : WX}
theorem pe_rev2 {e : Expr} {te : TE} {j k : Nat} {p1 p2 p3 p4 p5 pos : Pos} (he : PE X e te) : PE X (.Subscript e (.Slice (some (.UnaryOp .USub (.Constant (.int 2) j p4) p5)) none (some (.UnaryOp .USub (.Constant (.int 1) k p1) p2)) p3) pos) (tRev2 X.K te) := by
  refine ⟨fun pins s σ H Q I h => Subscript_ (thn (he.run pins s σ H _ I h) fun v s1 ⟨x, H1, I1, rx, a, xs, ex, hx, q⟩ => ?_)⟩
  subst ex
  obtain rfl : v = Value.ref a := rx
  have plo : PO X (some (.UnaryOp .USub (.Constant (.int 2) j p4) p5)) (tPart (tUn (rU fun i => .int (-i)) (tC (.int 2)))) := po_some (pe_un un_neg pe_int)
  have pst : PO X (some (.UnaryOp .USub (.Constant (.int 1) k p1) p2)) (tPart (tUn (rU fun i => .int (-i)) (tC (.int 1)))) := po_some (pe_un un_neg pe_int)
  refine wpAny_Slice (thn (plo.run pins s1 σ H1 (fun o H2 => o = some (-2) ∧ H2 = H1) I1 ⟨2, rfl, -2, rfl, rfl, rfl⟩) fun vl s2 ⟨l, H2, I2, pl, el, e2⟩ => ?_)
  subst el e2
  refine thn (po_none.run pins s2 σ H2 (fun o H3 => o = none ∧ H3 = H2) I2 ⟨rfl, rfl⟩) fun vu s3 ⟨u, H3, I3, pu, eu, e3⟩ => ?_
  subst eu e3
  refine thn (pst.run pins s3 σ H3 (fun o H4 => o = some (-1) ∧ H4 = H3) I3 ⟨1, rfl, -1, rfl, rfl, rfl⟩) fun vs s4 ⟨o, H4, I4, ps, eo, e4⟩ => ?_
  subst eo e4
  have J : Inv X pins σ H4 { s4 with heap := s4.heap.push { cls := .type "slice", data := .fields #[vl, vu, vs] } } := I4.kept (t' := s4.toks) fun b ob z => Heap.get?_push_of_some _ z
  obtain ⟨its, rv, ht, hz⟩ := J.list hx
  have len := rv.length
  refine tail_any (ops := [.ref a, .ref s4.heap.objs.size]) ht.isList.typeIs PySem.slot_list_getitem.lookup ?_ (by with_unfolding_all rfl)
  refine wpAny_getItem_list_slice ht.isList (Heap.IsSliceOf.new _ vl vu vs) pl pu ps (by decide) ?_ (by rw [List.size_toArray]; omega)
  rw [rev2_pick]
  have rr := vals_rev2 rv
  exact ⟨.ref _, _, J.laid (t' := s4.toks) (o := .lst (xs.take (xs.length - 1)).reverse) (fun b ob z => Heap.get?_push_of_some _ z) (Nat.le_refl _) ⟨by rw [List.length_reverse, List.length_take]; omega, _, 0, rr, Heap.get?_push_size _ rfl⟩, rfl, q _ (J.hok.fresh (Nat.le_refl _))⟩
def fRev2 (f : FE) : FA := fun s => (f s).bind fun d s => match d with
  | .list x => .ok (x.take (x.length - 1)).reverse s
  | _ => .bad
theorem oRev2 {e : Expr} {f : FE} {j k : Nat} {p1 p2 p3 p4 p5 pos : Pos} (hf : PE X e (tE X.K ex W f)) : PE X (.Subscript e (.Slice (some (.UnaryOp .USub (.Constant (.int 2) j p4) p5)) none (some (.UnaryOp .USub (.Constant (.int 1) k p1) p2)) p3) pos) (tO X.K ex W (fRev2 f)) :=
  PE.imp (pe_rev2 hf) fun σ H Q ⟨_, _, _, r, h⟩ => inE r h fun d s1 G1 H1 v e1 r1 hv h1 => by
    cases d with
    | list x =>
      cases hv with
      | @lst a xs _ q1 q2 =>
        refine ⟨_, xs, rfl, r1.b.sub.seq q1, fun p hp => ?_⟩
        have dd := DpRev (q2.takeI (xs.length - 1))
        rw [q2.len] at dd
        rw [q2.len]
        obtain ⟨r3, hf⟩ := r1.newOwn hp dd
        exact h1.val' r3 _ hf
    | _ => exact h1.elim
end
/-! ### C(..).m() -/
def newM (cn m : Str) (sem : SemM) (e : Ent) (s : S) : R D := match e with
  | .ins _ n fs => if n = cn ∧ (fs.lookup m).isNone = true then match sem fs [] s.w with
    | .ret d _ w => .ok d { s with w := w }
    | .exc k as _ w => .exc k as { s with w := w }
    | .bad => .bad
    else .bad
  | _ => .bad
def fNewM (cn m : Str) (sem : SemM) (f : S → R Ent) : FE := fun s => (f s).bind (newM cn m sem)
section
variable {X : Cx} {ex : ExT} {W : WX}
theorem eNewM0 {k : Nat} {cn m : Str} {sem : SemM} {o : Expr} {f : S → R Ent} {apos pos : Pos} {pl : Sem Bool} (F : FnM X.prog X.w X.K X.mg X.base ex k cn m 0 sem) (hr : RoomG k X.A) (tk : Takes X W) (hW : WFlat W) (ho : PE X o (tN X.K ex W f))
    (ht : eval (.Call (.Attribute o m apos) [] [] pos) X.env = (do
      let ov ← eval o X.env
      standAt apos.atName
      let (f, first) ← holding [ov] (getMethod ov m pl)
      callWith pos f first (backTo pos (starEach [] X.env)) (backToKw pos (keywordEach [] X.env))) := by rfl) :
    PE X (.Call (.Attribute o m apos) [] [] pos) (tE X.K ex W (fNewM cn m sem f)) := by
  obtain ⟨C, fa, fd, ps, hC, hcl, hm, ok, hb⟩ := F.ex
  refine PE.imp (pe_methG0 (pl := pl) ho hcl hm ok hr hb (passE0 tk) ht) fun σ H Q ⟨c, G, s, r, h⟩ => inN r h fun e s1 G1 H1 v e1 r1 hv h1 => ?_
  obtain ⟨hE, _, hsl⟩ := hv
  cases e with
  | ins b n fs =>
    unfold newM at h1
    dsimp only at h1
    by_cases hc : n = cn ∧ (fs.lookup m).isNone = true
    case neg =>
      rw [if_neg hc] at h1
      exact h1.elim
    case pos =>
      rw [if_pos hc] at h1
      obtain ⟨rfl, hno⟩ := hc
      obtain ⟨⟨q, ho, rfl, k1, k2, k3, k4, C', dx, fvs, hn, rfl, hpr⟩, _⟩ := hE
      have eC : C' = C := by
        have := hn.symm.trans hC
        cases this
        rfl
      subst eC
      have nf : fs.lookup m = none := Option.isNone_iff_eq_none.mp hno
      refine ⟨q, dx, fvs, rfl, k4, (hpr.look m).2 nf, ?_⟩
      show spM X.K ex n 0 sem (V.ref q :: ([] ++ [])) H1 Q (E0 W)
      refine ⟨c.wa, c.sc, G1, hide q H1, s1.w, fs, [], q, [], r1.baseHide q, rfl, rfl, .nil, ⟨C', dx, fvs, hn, k4, hpr⟩, k1, if_pos rfl, k3, ?_⟩
      cases z : sem fs [] s1.w with
      | ret d fs' w' =>
        rw [z] at h1
        intro v G' H' bb hi hg hvd
        obtain ⟨e2, r2⟩ := r1.afterHide k4 rfl k2 hsl bb
        exact h1 G' H' e2 r2 v hvd
      | exc k as fs' w' =>
        rw [z] at h1
        intro cls dx' G' H' bb hi hg hx σ'
        obtain ⟨e2, r2⟩ := r1.afterHide k4 rfl k2 hsl bb
        exact hW _ _ _ _ _ (h1 cls dx' G' H' e2 r2 hx)
      | bad => rw [z] at h1; exact h1.elim
  | _ => exact h1.elim
end
end PD
/-! PD32: a clause that does not name the exception. -/
namespace PD
open PySem PySem.Spec L2
open PyProof.Rows hiding St
variable [WI]
theorem te_no {K : PySem.W.Frag} {S R : Addr} (h1 : PySem.W.subIn K (.ref R) (.type "BaseException") = some true) (h2 : PySem.W.isClsIn K R = true) (h3 : PySem.W.typeIn K (.ref R) = some (.type "type")) (h4 : PySem.W.subIn K (.ref S) (.ref R) = some false) :
    PySem.W.exmOne K (.ref S) (.ref R) = some false := by
  have a : (PySem.W.subIn K (.ref R) (.type "BaseException") == some true) = true := by rw [h1]; rfl
  have b : ((PySem.W.clsIn K R).isSome && PySem.W.typeIn K (.ref R) == some (.type "type")) = true := by
    have z : (PySem.W.clsIn K R).isSome = true := h2
    rw [z, h3]; rfl
  show (if (PySem.W.subIn K (.ref R) (.type "BaseException") == some true) = true then (if ((PySem.W.clsIn K R).isSome && PySem.W.typeIn K (.ref R) == some (.type "type")) = true then PySem.W.subIn K (.ref S) (.ref R) else none) else none) = some false
  rw [if_pos a, if_pos b, h4]
/-! ### a test that only looks at lists that grow -/
def fLentT (f : FT) : FT := fun s => match f (frzS s) with
  | .ok b s' => .ok b { s with w := ⟨s.w.ns, s'.w.k⟩ }
  | _ => .bad
theorem tLent {X : Cx} {ex : ExT} {W : WX} {e : Expr} {f : FT} (he : PT X e (tT X.K ex W f)) : PT X e (tT X.K ex W (fLentT f)) := PT.imp he fun σ H Q ⟨c, G, s, r, h⟩ => by
  refine ⟨_, _, frzS s, r.lend, ?_⟩
  unfold fLentT at h
  cases z : f (frzS s) with
  | ok b s' =>
    rw [z] at h
    exact fun G2 H2 _ r2 => h G H2 (Same.refl _) (r.back r2.b)
  | exc k as s' => rw [z] at h; exact h.elim
  | bad => rw [z] at h; exact h.elim
end PD
/-! PD33: text * n. -/
namespace PD
open PySem PySem.Spec L2
open PyProof.Rows hiding St
variable [WI]
def repS (x : Str) (n : Nat) : Str := if n < 1 then Str.empty else if (n == 1 || x.length == 0) = true then x else ⟨(List.replicate n x.cps).foldl (· ++ ·) #[]⟩
def dMulS : D → D → Option D
  | .str x, .int n => if 0 ≤ n ∧ n ≤ 1000 ∧ x.length ≤ 1000 then some (.str (repS x n.toNat)) else none
  | _, _ => none
def rMulS : R2 := fun x y H Q => ∃ a n, x = .str a ∧ y = .int n ∧ 0 ≤ n ∧ n ≤ 1000 ∧ a.length ≤ 1000 ∧ Q (.str (repS a n.toNat)) H
theorem fold_size (c : Array Nat) : ∀ (n : Nat) (b : Array Nat), ((List.replicate n c).foldl (· ++ ·) b).size = b.size + n * c.size
  | 0, b => by simp
  | n + 1, b => by
    rw [List.replicate_succ, List.foldl_cons, fold_size c n, Array.size_append, Nat.succ_mul]
    omega
theorem op_mulS {X : Cx} : OpR X (binaryOp .Mult) rMulS := by
  intro pins s σ H x y v u Q I rx ry h
  obtain ⟨a, n, rfl, rfl, h0, h1, h2, q⟩ := h
  obtain ⟨t, rfl⟩ := (show ∃ t, v = Value.str a t from rx)
  obtain ⟨t', rfl⟩ := (show ∃ t', u = Value.int n t' from ry)
  have big : a.length * n.toNat ≤ 1000000 := by
    have z : n.toNat ≤ 1000 := by omega
    exact Nat.mul_le_mul h2 z
  have e1 : (n < 1) = (n.toNat < 1) := by rw [eq_iff_iff]; omega
  have e2 : (n == 1) = (n.toNat == 1) := by
    by_cases z : n = 1
    · subst z; rfl
    · have z' : n.toNat ≠ 1 := by omega
      rw [beq_false_of_ne z, beq_false_of_ne z']
  refine P.mul_str (by rw [decide_eq_false (by omega), decide_eq_false (by omega)]; rfl) (fun z _ => ?_) (fun z _ => ?_) ?_
  · have z1 : (1 : Int) ≤ n := by omega
    have z2 : (1000 : Int) ≤ (2 ^ 63 - 1) / n := (Int.le_ediv_iff_mul_le (by omega)).mpr (by omega)
    omega
  · unfold Builtin.Str.tooLong
    simp only [decide_eq_false_iff_not]
    have := sizeLine_eq
    omega
  · have fin : ∀ (w : Str), w = repS a n.toNat → ∀ s' : Shared, Inv X pins σ H s' → ∀ t2, EP X pins σ Q (.str w t2) s' := fun w ew s' I' t2 => ⟨.str w, H, I', ⟨_, rfl⟩, by rw [ew]; exact q⟩
    unfold repS at fin
    simp only [e1, e2]
    by_cases c1 : n.toNat < 1
    · rw [if_pos c1]
      simp only [c1, if_true] at fin
      exact ⟨by decide, fin _ rfl _ (I.tok _) _⟩
    · rw [if_neg c1]
      simp only [c1, if_false] at fin
      by_cases c2 : (n.toNat == 1 || a.length == 0) = true
      · rw [if_pos c2]
        simp only [c2, if_true] at fin
        exact fin _ rfl _ I _
      · rw [if_neg c2]
        simp only [c2] at fin
        refine ⟨?_, fin _ rfl _ (I.tok _) _⟩
        show ((List.replicate n.toNat a.cps).foldl (· ++ ·) #[]).size ≤ sizeLine
        rw [fold_size]
        have z : a.cps.size = a.length := rfl
        have := sizeLine_eq
        rw [z, Nat.mul_comm]
        simp
        omega
theorem od_mulS {K : PySem.W.Frag} : OpD K rMulS dMulS := by
  intro c G H σ s x y a b d Q r hx hy e q
  unfold dMulS at e
  split at e
  · rename_i x' n
    cases hx
    cases hy
    split at e
    · rename_i hc
      cases e
      exact ⟨x', n, rfl, rfl, hc.1, hc.2.1, hc.2.2, q _ G H (Same.refl _) r (.str _)⟩
    · cases e
  · cases e
theorem eMulS {X : Cx} {ex : ExT} {W : WX} {a b : Expr} {f g : FE} {pos : Pos} (hf : PE X a (tE X.K ex W f)) (hg : PE X b (tE X.K ex W g)) : PE X (.BinOp a .Mult b pos) (tE X.K ex W (fBin dMulS f g)) := eBin op_mulS od_mulS hf hg
end PD
/-! printed by gen.py -/
namespace Lk10
open PySem PySem.Spec L2 PD
open PyProof.Rows hiding St
def topS (i : Nat) : Stmt := PySem.Challenge.pw_beatscan_k10_refused_books.main.body.getD i (.Pass ⟨0, 0, 0, 0⟩)
def initOf : Stmt → Stmt
  | .ClassDef _ _ _ b _ _ _ _ _ _ _ => b.getD 0 (.Pass ⟨0, 0, 0, 0⟩)
  | s => s
section
open PySem.Calls
variable [WI]
abbrev si_BadBook : Stmt := initOf (topS 8)
def xA_BadBook (p0 p1 : Pos) : Arguments := { posonlyargs := [], args := [{ arg := "self", annotation := none, pos := p0 }, { arg := "name", annotation := none, pos := p1 }], vararg := none, kwonlyargs := [], kw_defaults := [], kwarg := none, defaults := [] }
def xB_BadBook (q0a q0b q0c q0d : Pos) : List Stmt := [.Assign [.Attribute (.Name "self" q0a) "name" q0b] (.Name "name" q0c) q0d]
def xS_BadBook : Scope := { kind := .function, names := [(PySem.Str.ofString "self", .local), (PySem.Str.ofString "name", .local)], isGenerator := false, isCoroutine := false, more := [] }
theorem xi_BadBook {K : PySem.W.Frag} {C fI : Addr} (hov : PySem.W.excOver K C ESX.exTail = true) (sa : PySem.W.findIn K (.ref C) "__setattr__" = some (some (.builtin "object.__setattr__"))) (hh : PySem.W.hasDictIn K C = true)
    (t0 : PySem.W.findIn K (.ref C) "name" = some none)
    (fn : ∃ (oc : Value) (od : Option Addr) (doc pm : Value) (an : Option Addr) (cdv ct : Value) (osl : Array (Option Value)) (p0 p1 q0a q0b q0c q0d : Pos), K.lookup fI = some ⟨oc, od, .func (PySem.W.fnOf "__init__" "BadBook.__init__" (xA_BadBook p0 p1) (xB_BadBook q0a q0b q0c q0d) xS_BadBook .none .none doc pm an cdv ct), osl⟩ ∧ PySem.W.codeIn K cdv "BadBook.__init__" = true) :
    InitOk K C fI ["name"] := by
  intro prog w A R s x b0 us hl X hlim hx hnx hroom hq
  obtain ⟨oc, od, doc, pm, an, cdv, ct, osl, p0, p1, q0a, q0b, q0c, q0d, ho, hcd⟩ := fn
  obtain ⟨v0, rfl⟩ : ∃ v0, us = [v0] := by
    match us, hl with
    | [v0], _ => exact ⟨v0, rfl⟩
  refine Att.call_fn (binds := [("self", .ref x), ("name", v0)]) X hlim ho hcd hroom (BindsTo.of_eq (by first | rfl | with_unfolding_all rfl)) (by first | rfl | decide | with_unfolding_all rfl) (fun s₁ IC => ?_) rfl rfl rfl
  obtain ⟨h₁, tk₁, rfl⟩ := IC.toInCall.same
  have k1 : ∀ b o, s.heap.get? b = some o → h₁.get? b = some o := IC.toInCall.keep
  have hn := IC.toInCall.ns
  have hLx : s.heap.objs.size ≠ x := Nat.ne_of_gt (Heap.lt_size hx)
  have X₁ : K.In h₁ := X.keeps k1
  have hx₁ := k1 _ _ hx
  have z : s.heap.objs.size < h₁.objs.size := hn.lt
  show wpAny _ _ (execs _ _) _ _ _
  refine wpAny_execs_cons (plainObj_wpAny_Assign_Attribute ?_)
  refine ldX (v := v0) hn (by first | rfl | with_unfolding_all rfl | kernel_rfl) (ldX (v := .ref x) hn (by first | rfl | with_unfolding_all rfl | kernel_rfl) ?_)
  refine PySem.W.set_plain X₁ (ox := PySem.HandSPX.excO C b0) (od := none) ⟨hx₁, rfl, rfl, trivial⟩ sa ?_
  refine exSet1 X₁ hx₁ hov hh (takerNo t0) fun h₂ tk₂ dx k2 dn dne hx₂ hn₂ => ?_
  show wpAny _ _ (execs _ _) _ _ _
  refine wpAny_execs_nil (hq h₂ tk₂ dx ⟨fun b o hb e => k2 b o hb (k1 b o e), hx₂, Nat.le_of_lt (Nat.lt_of_lt_of_le z dn), dne, ?_⟩)
  refine Eq.mp (congrArg (Heap.Ns1 h₂ dx) (funext fun y => ?_)) hn₂
  by_cases h1 : y = "name"
  · subst h1; rfl
  · rw [if_neg h1]; exact (List.lookup_cons .. |>.trans (by rw [show (y == ("name" : Str)) = false by simpa using h1]; rfl)).symm
abbrev si_BadText : Stmt := initOf (topS 7)
def xA_BadText (p0 p1 p2 : Pos) : Arguments := { posonlyargs := [], args := [{ arg := "self", annotation := none, pos := p0 }, { arg := "line", annotation := none, pos := p1 }, { arg := "column", annotation := none, pos := p2 }], vararg := none, kwonlyargs := [], kw_defaults := [], kwarg := none, defaults := [] }
def xB_BadText (q0a q0b q0c q0d q1a q1b q1c q1d : Pos) : List Stmt := [.Assign [.Attribute (.Name "self" q0a) "line" q0b] (.Name "line" q0c) q0d, .Assign [.Attribute (.Name "self" q1a) "column" q1b] (.Name "column" q1c) q1d]
def xS_BadText : Scope := { kind := .function, names := [(PySem.Str.ofString "self", .local), (PySem.Str.ofString "line", .local), (PySem.Str.ofString "column", .local)], isGenerator := false, isCoroutine := false, more := [] }
theorem xi_BadText {K : PySem.W.Frag} {C fI : Addr} (hov : PySem.W.excOver K C ESX.exTail = true) (sa : PySem.W.findIn K (.ref C) "__setattr__" = some (some (.builtin "object.__setattr__"))) (hh : PySem.W.hasDictIn K C = true)
    (t0 : PySem.W.findIn K (.ref C) "line" = some none)
    (t1 : PySem.W.findIn K (.ref C) "column" = some none)
    (fn : ∃ (oc : Value) (od : Option Addr) (doc pm : Value) (an : Option Addr) (cdv ct : Value) (osl : Array (Option Value)) (p0 p1 p2 q0a q0b q0c q0d q1a q1b q1c q1d : Pos), K.lookup fI = some ⟨oc, od, .func (PySem.W.fnOf "__init__" "BadText.__init__" (xA_BadText p0 p1 p2) (xB_BadText q0a q0b q0c q0d q1a q1b q1c q1d) xS_BadText .none .none doc pm an cdv ct), osl⟩ ∧ PySem.W.codeIn K cdv "BadText.__init__" = true) :
    InitOk K C fI ["line", "column"] := by
  intro prog w A R s x b0 us hl X hlim hx hnx hroom hq
  obtain ⟨oc, od, doc, pm, an, cdv, ct, osl, p0, p1, p2, q0a, q0b, q0c, q0d, q1a, q1b, q1c, q1d, ho, hcd⟩ := fn
  obtain ⟨v0, v1, rfl⟩ : ∃ v0 v1, us = [v0, v1] := by
    match us, hl with
    | [v0, v1], _ => exact ⟨v0, v1, rfl⟩
  refine Att.call_fn (binds := [("self", .ref x), ("line", v0), ("column", v1)]) X hlim ho hcd hroom (BindsTo.of_eq (by first | rfl | with_unfolding_all rfl)) (by first | rfl | decide | with_unfolding_all rfl) (fun s₁ IC => ?_) rfl rfl rfl
  obtain ⟨h₁, tk₁, rfl⟩ := IC.toInCall.same
  have k1 : ∀ b o, s.heap.get? b = some o → h₁.get? b = some o := IC.toInCall.keep
  have hn := IC.toInCall.ns
  have hLx : s.heap.objs.size ≠ x := Nat.ne_of_gt (Heap.lt_size hx)
  have X₁ : K.In h₁ := X.keeps k1
  have hx₁ := k1 _ _ hx
  have z : s.heap.objs.size < h₁.objs.size := hn.lt
  show wpAny _ _ (execs _ _) _ _ _
  refine wpAny_execs_cons (plainObj_wpAny_Assign_Attribute ?_)
  refine ldX (v := v0) hn (by first | rfl | with_unfolding_all rfl | kernel_rfl) (ldX (v := .ref x) hn (by first | rfl | with_unfolding_all rfl | kernel_rfl) ?_)
  refine PySem.W.set_plain X₁ (ox := PySem.HandSPX.excO C b0) (od := none) ⟨hx₁, rfl, rfl, trivial⟩ sa ?_
  refine exSet1 X₁ hx₁ hov hh (takerNo t0) fun h₂ tk₂ dx k2 dn dne hx₂ hn₂ => ?_
  have X₂ : K.In h₂ := fun a o e => k2 a o (fun q => by rw [q, hnx] at e; cases e) (X₁ a o e)
  have hm := hn.at (fun o e => k2 _ o hLx e)
  obtain ⟨oD, esD, epD, hoD, hdD, _⟩ := hn₂.count (Within.cons "line" v0 Within.nil)
  show wpAny _ _ (execs _ _) _ _ _
  refine wpAny_execs_cons (plainObj_wpAny_Assign_Attribute ?_)
  refine ldX (v := v1) hm (by first | rfl | with_unfolding_all rfl | kernel_rfl) (ldX (v := .ref x) hm (by first | rfl | with_unfolding_all rfl | kernel_rfl) ?_)
  refine PySem.W.set_plain X₂ (ox := { PySem.HandSPX.excO C b0 with dict := some dx }) (od := some oD) ⟨hx₂, rfl, rfl, hoD⟩ sa ?_
  refine exSet2 X₂ hx₂ hn₂ (Within.cons "line" v0 Within.nil) (by decide) hov hh (takerNo t1) fun h₃ tk₃ k3 hn₃ => ?_
  show wpAny _ _ (execs _ _) _ _ _
  refine wpAny_execs_nil (hq h₃ tk₃ dx ⟨fun b o hb e => k3 b o (fun q => ?_) (k2 b o hb (k1 b o e)), k3 x _ (Ne.symm dne) hx₂, Nat.le_of_lt (Nat.lt_of_lt_of_le z dn), dne, ?_⟩)
  · exact absurd (Nat.lt_of_lt_of_le (Nat.lt_of_lt_of_le (Heap.lt_size (k1 b o e)) dn) (Nat.le_of_eq q.symm)) (Nat.lt_irrefl _)
  refine Eq.mp (congrArg (Heap.Ns1 h₃ dx) (funext fun y => ?_)) hn₃
  by_cases h2 : y = "column"
  · subst h2; rfl
  · by_cases h1 : y = "line"
    · subst h1; rfl
    · rw [if_neg h2, if_neg h1]
      have e1 : (y == ("line" : Str)) = false := by simpa using h1
      have e2 : (y == ("column" : Str)) = false := by simpa using h2
      show none = List.lookup y [(("line" : Str), v0), (("column" : Str), v1)]
      simp only [List.lookup, e1, e2]
end
structure Bt (mg : Str → Option Value) : Prop where
  all : mg "all" = none
  any : mg "any" = none
  enumerate : mg "enumerate" = none
  int : mg "int" = none
  isinstance : mg "isinstance" = none
  len : mg "len" = none
  max : mg "max" = none
  range : mg "range" = none
  sorted : mg "sorted" = none
  str : mg "str" = none
  sum : mg "sum" = none
  tuple : mg "tuple" = none
def c_ALL : D := .int 115792089237316195423570985008687907853269984665640564039457584007913129639935
def c_FIGURES : D := .str "0123456789"
def c_HEXES : D := .str "0123456789abcdef"
def c_HIGH : D := .str "&'()*+,-./0123456789:;<=>?@ABCDEFGHIJKLMNOPQRSTUVWXYZ[\\]^_`abcdefghijklmnopqrstuvwxyz{|}~"
def c_IN_CLASSES : D := .str " \\]^-"
def c_LETTERS : D := .str "abcdefghijklmnopqrstuvwxyzABCDEFGHIJKLMNOPQRSTUVWXYZ_"
def c_LOW : D := .str " !\"#$"
def c_MOST_DEEP : D := .int 30
def c_MOST_RULES : D := .int 8
def c_MOST_SIZE : D := .int 300
def c_MOST_TIMES : D := .int 20
def c_SPECIALS : D := .str " \\.[](){}|&!*+?^$#"
section
variable [WI] {P : Program} {w : World} {K : PySem.W.Frag} {mg : Str → Option Value} {base : Heap} {ex : ExT}
abbrev s_set_of : Stmt := topS 2
theorem sc_set_of : FnScope ["numbers", "found", "byte"] ["numbers"] (defScope s_set_of) := ⟨rfl, rfl, rfl, by decide +kernel, rfl, by decide +kernel, by decide +kernel⟩
def f_set_of : FO :=
  sSeq (sAsg (fC (.int 0)) (gNm 1))
    (sSeq (sFor [2] (fItX (fSlot 0)) (gNm 2) (sAug 1 dOr (fBin dShl (fC (.int 1)) (fSlot 2))))
    (sRet (fSlot 1)))
def sem_set_of : Sem' := semOf 3 false f_set_of
theorem ok_set_of {k : Nat} {f : Addr} {fd : FuncData} (F : Fun K "set_of" "set_of" s_set_of f fd) (b : Binds K fd ["numbers"] []) (g : mg "set_of" = some (.ref f))  : FnD P w K mg base ex (k + 1) "set_of" false 1 sem_set_of := by
  have Sc := sc_set_of
  exact fnD F Sc (by decide) (by decide) (fun cdv A outer s H E hg => have hr := hg.rm; bCons (kSet (i := 1) Sc.nd eInt)
    (bCons (kFor (kl := [2]) (passes_of rfl) rfl (iItX (eSlot 0)) (gName_ (i := 2) Sc.nd) (bOne (kAug (i := 1) iop_or od_or Sc.nd (eShl eInt (eSlot 2)))))
    (bOne (kRet (eSlot 1))))) b g
abbrev s_range_set : Stmt := topS 3
theorem sc_range_set : FnScope ["first", "last"] ["first", "last"] (defScope s_range_set) := ⟨rfl, rfl, rfl, by decide +kernel, rfl, by decide +kernel, by decide +kernel⟩
def f_range_set : FO :=
  sRet (fBin dSub (fBin dShl (fC (.int 1)) (fBin dAddX (fSlot 1) (fC (.int 1)))) (fBin dShl (fC (.int 1)) (fSlot 0)))
def sem_range_set : Sem' := semOf 2 false f_range_set
theorem ok_range_set {k : Nat} {f : Addr} {fd : FuncData} (F : Fun K "range_set" "range_set" s_range_set f fd) (b : Binds K fd ["first", "last"] []) (g : mg "range_set" = some (.ref f))  : FnD P w K mg base ex (k + 1) "range_set" false 2 sem_range_set := by
  have Sc := sc_range_set
  exact fnD F Sc (by decide) (by decide) (fun cdv A outer s H E hg => have hr := hg.rm; bOne (kRet (eSub (eShl eInt (eAddX (eSlot 1) eInt)) (eShl eInt (eSlot 0))))) b g
abbrev s_without : Stmt := topS 4
theorem sc_without : FnScope ["some"] ["some"] (defScope s_without) := ⟨rfl, rfl, rfl, by decide +kernel, rfl, by decide +kernel, by decide +kernel⟩
def f_without : FO :=
  sRet (fBin dXor (fC c_ALL) (fSlot 0))
def sem_without : Sem' := semOf 1 false f_without
theorem ok_without {k : Nat} {f : Addr} {fd : FuncData} (F : Fun K "without" "without" s_without f fd) (b : Binds K fd ["some"] []) (g : mg "without" = some (.ref f)) (hc_ALL : ∃ (u : Value) (v : V), mg "ALL" = some u ∧ RelV v u ∧ ∀ G, PD.Dp K G v c_ALL) : FnD P w K mg base ex (k + 1) "without" false 1 sem_without := by
  obtain ⟨u_ALL, v_ALL, hc_ALL⟩ := hc_ALL
  have Sc := sc_without
  exact fnD F Sc (by decide) (by decide) (fun cdv A outer s H E hg => have hr := hg.rm; bOne (kRet (eXorB (eGlob rfl hc_ALL.1 hc_ALL.2.1 hc_ALL.2.2) (eSlot 0)))) b g
abbrev s_some : Stmt := topS 10
theorem sc_some : FnScope ["told"] ["told"] (defScope s_some) := ⟨rfl, rfl, rfl, by decide +kernel, rfl, by decide +kernel, by decide +kernel⟩
def f_some : FO :=
  sRet (fIf (tVal (fCmpS dEq 0 (fC (.int 0)))) (fTup (fCons (fC (.str "nothing")) fNil)) (fTup (fCons (fC (.str "some")) (fCons (fSlot 0) fNil))))
def sem_some : Sem' := semOf 1 false f_some
theorem ok_some {k : Nat} {f : Addr} {fd : FuncData} (F : Fun K "some" "some" s_some f fd) (b : Binds K fd ["told"] []) (g : mg "some" = some (.ref f))  : FnD P w K mg base ex (k + 1) "some" false 1 sem_some := by
  have Sc := sc_some
  exact fnD F Sc (by decide) (by decide) (fun cdv A outer s H E hg => have hr := hg.rm; bOne (kRet (eIfE (tEqS 0 hr eInt) (eTup (aCons eStr aNil)) (eTup (aCons eStr (aCons (eSlot 0) aNil)))))) b g
abbrev s_flat : Stmt := topS 12
theorem sc_flat : FnScope ["word", "trees", "found", "tree", "part"] ["word", "trees"] (defScope s_flat) := ⟨rfl, rfl, rfl, by decide +kernel, rfl, by decide +kernel, by decide +kernel⟩
def f_flat : FO :=
  sSeq (sSetN 2 fKys0)
    (sSeq (sFor [3, 4] (fItX (fSlot 1)) (gNm 3) (sFor [4] (fItX (fIf (tVal (fBin dEq (fIxS 3 (fC (.int 0))) (fSlot 0))) (fIxS 3 (fC (.int 1))) (fTup (fCons (fSlot 3) fNil)))) (gNm 4) (sSetKy 2 (fSlot 4))))
    (sRet (fFz (fSrtK 2))))
def sem_flat : Sem' := semOf 5 false f_flat
theorem ok_flat {k : Nat} {f : Addr} {fd : FuncData} (F : Fun K "flat" "flat" s_flat f fd) (b : Binds K fd ["word", "trees"] []) (g : mg "flat" = some (.ref f)) (B : Bt mg) (hw : WI.wd = w) : FnD P w K mg base ex (k + 1) "flat" false 2 sem_flat := by
  have Sc := sc_flat
  exact fnD F Sc (by decide) (by decide) (fun cdv A outer s H E hg => have hr := hg.rm; bCons (kSetN (i := 2) Sc.nd (nKys0 hw))
    (bCons (kFor (kl := [3, 4]) (passes_of rfl) rfl (iItX (eSlot 1)) (gName_ (i := 3) Sc.nd) (bOne (kFor (kl := [4]) (passes_of rfl) rfl (iItX (eIfE (tEq' hr (eIxS 3 eInt) (eSlot 0)) (eIxS 3 eInt) (eTup (aCons (eSlot 3) aNil)))) (gName_ (i := 4) Sc.nd) (bOne (kSetKy 2 hw hr (eSlot 4))))))
    (bOne (kRet (eFz (oSrtK 2 hw rfl hg B.sorted B.str)))))) b g
abbrev s_but : Stmt := topS 16
theorem sc_but : FnScope ["tree"] ["tree"] (defScope s_but) := ⟨rfl, rfl, rfl, by decide +kernel, rfl, by decide +kernel, by decide +kernel⟩
def f_but : FO :=
  sRet (fIf (tVal (fBin dEq (fIxS 0 (fC (.int 0))) (fC (.str "not")))) (fIxS 0 (fC (.int 1))) (fTup (fCons (fC (.str "not")) (fCons (fSlot 0) fNil))))
def sem_but : Sem' := semOf 1 false f_but
theorem ok_but {k : Nat} {f : Addr} {fd : FuncData} (F : Fun K "but" "but" s_but f fd) (b : Binds K fd ["tree"] []) (g : mg "but" = some (.ref f))  : FnD P w K mg base ex (k + 1) "but" false 1 sem_but := by
  have Sc := sc_but
  exact fnD F Sc (by decide) (by decide) (fun cdv A outer s H E hg => have hr := hg.rm; bOne (kRet (eIfE (tEq' hr (eIxS 0 eInt) eStr) (eIxS 0 eInt) (eTup (aCons eStr (aCons (eSlot 0) aNil)))))) b g
abbrev s_again : Stmt := topS 17
theorem sc_again : FnScope ["tree"] ["tree"] (defScope s_again) := ⟨rfl, rfl, rfl, by decide +kernel, rfl, by decide +kernel, by decide +kernel⟩
def f_again : FO :=
  sSeq (sIf (tVal (fBin dIn (fSlot 0) (fTup (fCons (fTup (fCons (fC (.str "nothing")) fNil)) (fCons (fTup (fCons (fC (.str "empty")) fNil)) fNil))))) (sRet (fTup (fCons (fC (.str "empty")) fNil))) sNil)
    (sRet (fIf (tVal (fBin dEq (fIxS 0 (fC (.int 0))) (fC (.str "again")))) (fSlot 0) (fTup (fCons (fC (.str "again")) (fCons (fSlot 0) fNil)))))
def sem_again : Sem' := semOf 1 false f_again
theorem ok_again {k : Nat} {f : Addr} {fd : FuncData} (F : Fun K "again" "again" s_again f fd) (b : Binds K fd ["tree"] []) (g : mg "again" = some (.ref f))  : FnD P w K mg base ex (k + 1) "again" false 1 sem_again := by
  have Sc := sc_again
  exact fnD F Sc (by decide) (by decide) (fun cdv A outer s H E hg => have hr := hg.rm; bCons (kIf (tIn' hr (eSlot 0) (eTup (aCons (eTup (aCons eStr aNil)) (aCons (eTup (aCons eStr aNil)) aNil)))) (bOne (kRet (eTup (aCons eStr aNil)))) bNil)
    (bOne (kRet (eIfE (tEq' hr (eIxS 0 eInt) eStr) (eSlot 0) (eTup (aCons eStr (aCons (eSlot 0) aNil))))))) b g
abbrev s_byte_of : Stmt := topS 34
theorem sc_byte_of : FnScope ["sign", "at"] ["sign"] (defScope s_byte_of) := ⟨rfl, rfl, rfl, by decide +kernel, rfl, by decide +kernel, by decide +kernel⟩
def f_byte_of : FO :=
  sSeq (sAsg (fFind (fC c_LOW) (fSlot 0)) (gNm 1))
    (sSeq (sIf (tVal (fBin dGe (fSlot 1) (fC (.int 0)))) (sRet (fBin dAddX (fC (.int 32)) (fSlot 1))) sNil)
    (sSeq (sAsg (fFind (fC c_HIGH) (fSlot 0)) (gNm 1))
    (sRet (fIf (tVal (fBin dGe (fSlot 1) (fC (.int 0)))) (fBin dAddX (fC (.int 38)) (fSlot 1)) (fC .none)))))
def sem_byte_of : Sem' := semOf 2 false f_byte_of
theorem ok_byte_of {k : Nat} {f : Addr} {fd : FuncData} (F : Fun K "byte_of" "byte_of" s_byte_of f fd) (b : Binds K fd ["sign"] []) (g : mg "byte_of" = some (.ref f)) (hc_HIGH : ∃ (u : Value) (v : V), mg "HIGH" = some u ∧ RelV v u ∧ ∀ G, PD.Dp K G v c_HIGH) (hc_LOW : ∃ (u : Value) (v : V), mg "LOW" = some u ∧ RelV v u ∧ ∀ G, PD.Dp K G v c_LOW) : FnD P w K mg base ex (k + 1) "byte_of" false 1 sem_byte_of := by
  obtain ⟨u_HIGH, v_HIGH, hc_HIGH⟩ := hc_HIGH
  obtain ⟨u_LOW, v_LOW, hc_LOW⟩ := hc_LOW
  have Sc := sc_byte_of
  exact fnD F Sc (by decide) (by decide) (fun cdv A outer s H E hg => have hr := hg.rm; bCons (kSet (i := 1) Sc.nd (eFind (eGlob rfl hc_LOW.1 hc_LOW.2.1 hc_LOW.2.2) (eSlot 0)))
    (bCons (kIf (tGe' (eSlot 1) eInt) (bOne (kRet (eAddX eInt (eSlot 1)))) bNil)
    (bCons (kSet (i := 1) Sc.nd (eFind (eGlob rfl hc_HIGH.1 hc_HIGH.2.1 hc_HIGH.2.2) (eSlot 0)))
    (bOne (kRet (eIfE (tGe' (eSlot 1) eInt) (eAddX eInt (eSlot 1)) eNon)))))) b g
abbrev s_PatternReader___init__ : Stmt := inClass (topS 35) 0
theorem sc_PatternReader___init__ : FnScope ["self", "line", "number", "at"] ["self", "line", "number", "at"] (defScope s_PatternReader___init__) := ⟨rfl, rfl, rfl, by decide +kernel, rfl, by decide +kernel, by decide +kernel⟩
def f_PatternReader___init__ : FO :=
  sSeq (sFldO "PatternReader" 0 "line" (fSlot 1))
    (sSeq (sFldO "PatternReader" 0 "number" (fSlot 2))
    (sSeq (sFldO "PatternReader" 0 "at" (fSlot 3))
    (sFldO "PatternReader" 0 "deep" (fC (.int 0)))))
def sem_PatternReader___init__ : SemM := semOfM 4 "PatternReader" f_PatternReader___init__
theorem ok_PatternReader___init__ {k : Nat} {f : Addr} {fd : FuncData} (F : Fun K "__init__" "PatternReader.__init__" s_PatternReader___init__ f fd) (b : Binds K fd ["self", "line", "number", "at"] []) {C_PatternReader : Addr} (T_PatternReader : ClsF K "PatternReader" C_PatternReader ["line", "number", "at", "deep"]) (M : Mk K C_PatternReader f) (hm : mg "PatternReader" = some (.ref C_PatternReader)) : FnI P w K mg base ex (k + 1) "PatternReader" 3 sem_PatternReader___init__ := by
  have Sc := sc_PatternReader___init__
  exact fnI T_PatternReader M hm F Sc (by decide) (by decide) (fun cdv A outer s H E hr => bCons (kFld 0 T_PatternReader (eSlot 1))
    (bCons (kFld 0 T_PatternReader (eSlot 2))
    (bCons (kFld 0 T_PatternReader (eSlot 3))
    (bOne (kFld 0 T_PatternReader eInt))))) b
abbrev s_PatternReader_wrong : Stmt := inClass (topS 35) 1
theorem sc_PatternReader_wrong : FnScope ["self", "at"] ["self", "at"] (defScope s_PatternReader_wrong) := ⟨rfl, rfl, rfl, by decide +kernel, rfl, by decide +kernel, by decide +kernel⟩
def f_PatternReader_wrong : FO :=
  sRaise 0 2 (fCons (fFld "PatternReader" 0 "number") (fCons (fBin dAddX (fSlot 1) (fC (.int 1))) fNil))
def sem_PatternReader_wrong : SemM := semOfM 2 "PatternReader" f_PatternReader_wrong
theorem ok_PatternReader_wrong {k : Nat} {f : Addr} {fd : FuncData} (F : Fun K "wrong" "PatternReader.wrong" s_PatternReader_wrong f fd) (b : Binds K fd ["self", "at"] []) {C_PatternReader : Addr} (T_PatternReader : ClsF K "PatternReader" C_PatternReader ["line", "number", "at", "deep"]) {C_BadText fI_BadText : Addr} (TX_BadText : XCls K mg "BadText" C_BadText fI_BadText ["line", "column"]) (hex_BadText : ex 0 = some (C_BadText, (["line", "column"] : List Str))) (M : Meth K C_PatternReader "wrong" f) : FnM P w K mg base ex (k + 1) "PatternReader" "wrong" 1 sem_PatternReader_wrong := by
  have Sc := sc_PatternReader_wrong
  exact fnM T_PatternReader M F Sc (by decide) (by decide) (fun cdv A outer s H E hg => have hr := hg.rm; bOne (kRaise (n := 2) rfl (takes_of rfl rfl rfl rfl) TX_BadText hex_BadText rfl (by decide) (by decide) hr (aCons (eFld 0 T_PatternReader) (aCons (eAddX (eSlot 1) eInt) aNil)))) b
abbrev s_PatternReader_skip : Stmt := inClass (topS 35) 2
theorem sc_PatternReader_skip : FnScope ["self"] ["self"] (defScope s_PatternReader_skip) := ⟨rfl, rfl, rfl, by decide +kernel, rfl, by decide +kernel, by decide +kernel⟩
def f_PatternReader_skip : FO :=
  sWhile wF [] (fAnd (tVal (fBin dLt (fFld "PatternReader" 0 "at") (fLen (fFld "PatternReader" 0 "line")))) (tVal (fBin dEq (fIx (fFld "PatternReader" 0 "line") (fFld "PatternReader" 0 "at")) (fC (.str " "))))) (sFldA (· + ·) "PatternReader" 0 "at" (fC (.int 1)))
def sem_PatternReader_skip : SemM := semOfM 1 "PatternReader" f_PatternReader_skip
theorem ok_PatternReader_skip {k : Nat} {f : Addr} {fd : FuncData} (F : Fun K "skip" "PatternReader.skip" s_PatternReader_skip f fd) (b : Binds K fd ["self"] []) {C_PatternReader : Addr} (T_PatternReader : ClsF K "PatternReader" C_PatternReader ["line", "number", "at", "deep"]) (B : Bt mg) (M : Meth K C_PatternReader "skip" f) : FnM P w K mg base ex (k + 1) "PatternReader" "skip" 0 sem_PatternReader_skip := by
  have Sc := sc_PatternReader_skip
  exact fnM T_PatternReader M F Sc (by decide) (by decide) (fun cdv A outer s H E hg => have hr := hg.rm; bOne (kWhile (n := wF) (kl := []) (passes_of rfl) (PW.pt (tAndW (tLt' (eFld 0 T_PatternReader) (eLen B.len (eFld 0 T_PatternReader))) (tAnd1 (tEq' hr (eIx (eFld 0 T_PatternReader) (eFld 0 T_PatternReader)) eStr)))) (bOne (kFldA 0 in_add rAdd_ok T_PatternReader eInt)))) b
abbrev s_name_end : Stmt := topS 36
theorem sc_name_end : FnScope ["line", "number", "at"] ["line", "number", "at"] (defScope s_name_end) := ⟨rfl, rfl, rfl, by decide +kernel, rfl, by decide +kernel, by decide +kernel⟩
def f_name_end : FO :=
  sSeq (sIf (tVal (fBin dNin (fIxS 0 (fSlot 2)) (fC c_LETTERS))) (sRaise 0 2 (fCons (fSlot 1) (fCons (fBin dAddX (fSlot 2) (fC (.int 1))) fNil))) sNil)
    (sSeq (sWhile wF [] (fAnd (tVal (fBin dLt (fSlot 2) (fLenS 0))) (tVal (fBin dIn (fIxS 0 (fSlot 2)) (fBin dAddX (fC c_LETTERS) (fC c_FIGURES))))) (sAug 2 dAddI (fC (.int 1))))
    (sRet (fSlot 2)))
def sem_name_end : Sem' := semOf 3 false f_name_end
theorem ok_name_end {k : Nat} {f : Addr} {fd : FuncData} (F : Fun K "name_end" "name_end" s_name_end f fd) (b : Binds K fd ["line", "number", "at"] []) (g : mg "name_end" = some (.ref f)) (B : Bt mg) {C_BadText fI_BadText : Addr} (TX_BadText : XCls K mg "BadText" C_BadText fI_BadText ["line", "column"]) (hex_BadText : ex 0 = some (C_BadText, (["line", "column"] : List Str))) (hc_FIGURES : ∃ (u : Value) (v : V), mg "FIGURES" = some u ∧ RelV v u ∧ ∀ G, PD.Dp K G v c_FIGURES) (hc_LETTERS : ∃ (u : Value) (v : V), mg "LETTERS" = some u ∧ RelV v u ∧ ∀ G, PD.Dp K G v c_LETTERS) : FnD P w K mg base ex (k + 1) "name_end" false 3 sem_name_end := by
  obtain ⟨u_FIGURES, v_FIGURES, hc_FIGURES⟩ := hc_FIGURES
  obtain ⟨u_LETTERS, v_LETTERS, hc_LETTERS⟩ := hc_LETTERS
  have Sc := sc_name_end
  exact fnD F Sc (by decide) (by decide) (fun cdv A outer s H E hg => have hr := hg.rm; bCons (kIf (tNin' hr (eIxS 0 (eSlot 2)) (eGlob rfl hc_LETTERS.1 hc_LETTERS.2.1 hc_LETTERS.2.2)) (bOne (kRaise (n := 2) rfl (takes_of rfl rfl rfl rfl) TX_BadText hex_BadText rfl (by decide) (by decide) hr (aCons (eSlot 1) (aCons (eAddX (eSlot 2) eInt) aNil)))) bNil)
    (bCons (kWhile (n := wF) (kl := []) (passes_of rfl) (PW.pt (tAndW (tLt' (eSlot 2) (eLenS 0 B.len)) (tAnd1 (tIn' hr (eIxS 0 (eSlot 2)) (eAddX (eGlob rfl hc_LETTERS.1 hc_LETTERS.2.1 hc_LETTERS.2.2) (eGlob rfl hc_FIGURES.1 hc_FIGURES.2.1 hc_FIGURES.2.2)))))) (bOne (kAug (i := 2) iop_add od_addI Sc.nd eInt)))
    (bOne (kRet (eSlot 2))))) b g
abbrev s__law_cell_at : Stmt := topS 41
theorem sc__law_cell_at : FnScope ["_law_script", "_law_k"] ["_law_script", "_law_k"] (defScope s__law_cell_at) := ⟨rfl, rfl, rfl, by decide +kernel, rfl, by decide +kernel, by decide +kernel⟩
def f__law_cell_at : FO :=
  sSeq (sIf (tVal (fBin dLt (fSlot 1) (fLenS 0))) (sRet (fIxS 0 (fSlot 1))) sNil)
    (sRet (fC (.int 0)))
def sem__law_cell_at : Sem' := semOf 2 false f__law_cell_at
theorem ok__law_cell_at {k : Nat} {f : Addr} {fd : FuncData} (F : Fun K "_law_cell_at" "_law_cell_at" s__law_cell_at f fd) (b : Binds K fd ["_law_script", "_law_k"] []) (g : mg "_law_cell_at" = some (.ref f)) (B : Bt mg) : FnD P w K mg base ex (k + 1) "_law_cell_at" false 2 sem__law_cell_at := by
  have Sc := sc__law_cell_at
  exact fnD F Sc (by decide) (by decide) (fun cdv A outer s H E hg => have hr := hg.rm; bCons (kIf (tLt' (eSlot 1) (eLenS 0 B.len)) (bOne (kRet (eIxS 0 (eSlot 1)))) bNil)
    (bOne (kRet eInt))) b g
abbrev s__law_draw : Stmt := topS 42
theorem sc__law_draw : FnScope ["_law_cell", "_law_k", "_law_bound", "_law_primes"] ["_law_cell", "_law_k", "_law_bound"] (defScope s__law_draw) := ⟨rfl, rfl, rfl, by decide +kernel, rfl, by decide +kernel, by decide +kernel⟩
def f__law_draw : FO :=
  sSeq (sAsg (fTup (fCons (fC (.int 1000003)) (fCons (fC (.int 1000033)) (fCons (fC (.int 1000037)) (fCons (fC (.int 1000039)) (fCons (fC (.int 1000081)) (fCons (fC (.int 1000099)) (fCons (fC (.int 1000117)) (fCons (fC (.int 1000121)) (fCons (fC (.int 1000133)) (fCons (fC (.int 1000151)) (fCons (fC (.int 1000159)) (fCons (fC (.int 1000171)) (fCons (fC (.int 1000183)) (fCons (fC (.int 1000187)) (fCons (fC (.int 1000193)) (fCons (fC (.int 1000199)) fNil))))))))))))))))) (gNm 3))
    (sRet (fBin dMod (fBin dMod (fB1 dIntO (fBin dAddX (fBin dMul (fSlot 0) (fC (.int 48271))) (fBin dMul (fSlot 1) (fC (.int 69621))))) (fIxS 3 (fBin dMod (fB1 dIntO (fSlot 1)) (fC (.int 16))))) (fSlot 2)))
def sem__law_draw : Sem' := semOf 4 false f__law_draw
theorem ok__law_draw {k : Nat} {f : Addr} {fd : FuncData} (F : Fun K "_law_draw" "_law_draw" s__law_draw f fd) (b : Binds K fd ["_law_cell", "_law_k", "_law_bound"] []) (g : mg "_law_draw" = some (.ref f)) (B : Bt mg) : FnD P w K mg base ex (k + 1) "_law_draw" false 3 sem__law_draw := by
  have Sc := sc__law_draw
  exact fnD F Sc (by decide) (by decide) (fun cdv A outer s H E hg => have hr := hg.rm; bCons (kSet (i := 3) Sc.nd (eTup (aCons eInt (aCons eInt (aCons eInt (aCons eInt (aCons eInt (aCons eInt (aCons eInt (aCons eInt (aCons eInt (aCons eInt (aCons eInt (aCons eInt (aCons eInt (aCons eInt (aCons eInt (aCons eInt aNil))))))))))))))))))
    (bOne (kRet (eMod (eMod (eIntF B.int (eAddX (eMul (eSlot 0) eInt) (eMul (eSlot 1) eInt))) (eIxS 3 (eMod (eIntF B.int (eSlot 1)) eInt))) (eSlot 2))))) b g
abbrev s_sets_together : Stmt := topS 13
theorem sc_sets_together : FnScope ["word", "trees", "sets", "told", "one", "tree"] ["word", "trees"] (defScope s_sets_together) := ⟨rfl, rfl, rfl, by decide +kernel, rfl, by decide +kernel, by decide +kernel⟩
def f_sets_together : FO :=
  sSeq (sSetO 2 (fComp [5] (fItX (fSlot 1)) (gNm 5) (tVal (fBin dEq (fIxS 5 (fC (.int 0))) (fC (.str "some")))) (fIxS 5 (fC (.int 1)))))
    (sSeq (sIf (tVal (fBin dLt (fLenS 2) (fC (.int 2)))) (sRet (fSlot 1)) sNil)
    (sSeq (sAsg (fIf (tVal (fCmpS dEq 0 (fC (.str "any of")))) (fC (.int 0)) (fC c_ALL)) (gNm 3))
    (sSeq (sFor [4] (fItX (fSlot 2)) (gNm 4) (sAsg (fIf (tVal (fCmpS dEq 0 (fC (.str "any of")))) (fBin dOr (fSlot 3) (fSlot 4)) (fBin dAnd (fSlot 3) (fSlot 4))) (gNm 3)))
    (sRet (fFz (fSrtS (fFz (fLim (fStar (fFz (fComp [5] (fItX (fSlot 1)) (gNm 5) (tVal (fBin dNe (fIxS 5 (fC (.int 0))) (fC (.str "some")))) (fSlot 5))) (fCons (fCall 1 sem_some (fCons (fSlot 3) fNil)) fNil))))))))))
def sem_sets_together : Sem' := semOf 6 false f_sets_together
theorem ok_sets_together {k : Nat} {f : Addr} {fd : FuncData} (F : Fun K "sets_together" "sets_together" s_sets_together f fd) (b : Binds K fd ["word", "trees"] []) (g : mg "sets_together" = some (.ref f)) (B : Bt mg) (hc_ALL : ∃ (u : Value) (v : V), mg "ALL" = some u ∧ RelV v u ∧ ∀ G, PD.Dp K G v c_ALL) (K_some : FnD P w K mg base ex k "some" false 1 sem_some) : FnD P w K mg base ex (k + 1) "sets_together" false 2 sem_sets_together := by
  obtain ⟨u_ALL, v_ALL, hc_ALL⟩ := hc_ALL
  have Sc := sc_sets_together
  exact fnD F Sc (by decide) (by decide) (fun cdv A outer s H E hg => have hr := hg.rm; bCons (kSetLc (i := 2) (own := [("tree", 5)]) rfl Sc.nd (iItX (eSlot 1)) (blkOk_by (by kernel_rfl)) (fun _ _ _ _ _ => gName_ (i := 5) Sc.nd) (fun _ _ _ _ _ => tsOne (tEq' hr (eIxS 5 eInt) eStr)) (fun _ _ _ _ _ => eIxS 5 eInt))
    (bCons (kIf (tLt' (eLenS 2 B.len) eInt) (bOne (kRet (eSlot 1))) bNil)
    (bCons (kSet (i := 3) Sc.nd (eIfE (tEqS 0 hr eStr) eInt (eGlob rfl hc_ALL.1 hc_ALL.2.1 hc_ALL.2.2)))
    (bCons (kFor (kl := [4]) (passes_of rfl) rfl (iItX (eSlot 2)) (gName_ (i := 4) Sc.nd) (bOne (kSet (i := 3) Sc.nd (eIfE (tEqS 0 hr eStr) (eOrB (eSlot 3) (eSlot 4)) (eAndB (eSlot 3) (eSlot 4))))))
    (bOne (kRet (eFz (oSrtS rfl hg B.sorted B.str (eFz (oLst (aStar (eFz (oComp (own := [("tree", 5)]) rfl Sc.nd (iItX (eSlot 1)) (blkOk_by (by kernel_rfl)) (fun _ _ _ _ _ => gName_ (i := 5) Sc.nd) (fun _ _ _ _ _ => tsOne (tNe' hr (eIxS 5 eInt) eStr)) (fun _ _ _ _ _ => eSlot 5))) (aCons (eCall K_some hg (takes_of rfl rfl rfl rfl) (aCons (eSlot 3) aNil)) aNil)))))))))))) b g
abbrev s_PatternReader_sign : Stmt := inClass (topS 35) 3
theorem sc_PatternReader_sign : FnScope ["self"] ["self"] (defScope s_PatternReader_sign) := ⟨rfl, rfl, rfl, by decide +kernel, rfl, by decide +kernel, by decide +kernel⟩
def f_PatternReader_sign : FO :=
  sSeq (sDrp (fMeth "PatternReader" 0 "skip" 0 sem_PatternReader_skip fNil))
    (sRet (fIf (fAnd (tVal (fBin dLt (fFld "PatternReader" 0 "at") (fLen (fFld "PatternReader" 0 "line")))) (tVal (fBin dNe (fIx (fFld "PatternReader" 0 "line") (fFld "PatternReader" 0 "at")) (fC (.str "#"))))) (fIx (fFld "PatternReader" 0 "line") (fFld "PatternReader" 0 "at")) (fC (.str ""))))
def sem_PatternReader_sign : SemM := semOfM 1 "PatternReader" f_PatternReader_sign
theorem ok_PatternReader_sign {k : Nat} {f : Addr} {fd : FuncData} (F : Fun K "sign" "PatternReader.sign" s_PatternReader_sign f fd) (b : Binds K fd ["self"] []) {C_PatternReader : Addr} (T_PatternReader : ClsF K "PatternReader" C_PatternReader ["line", "number", "at", "deep"]) (B : Bt mg) (K_PatternReader_skip : FnM P w K mg base ex k "PatternReader" "skip" 0 sem_PatternReader_skip) (M : Meth K C_PatternReader "sign" f) : FnM P w K mg base ex (k + 1) "PatternReader" "sign" 0 sem_PatternReader_sign := by
  have Sc := sc_PatternReader_sign
  exact fnM T_PatternReader M F Sc (by decide) (by decide) (fun cdv A outer s H E hg => have hr := hg.rm; bCons (kDrp (eMeth0 0 K_PatternReader_skip hg (takes_of rfl rfl rfl rfl) (fun _ _ _ _ _ h => h)))
    (bOne (kRet (eIfE (PW.pt (tAndW (tLt' (eFld 0 T_PatternReader) (eLen B.len (eFld 0 T_PatternReader))) (tAnd1 (tNe' hr (eIx (eFld 0 T_PatternReader) (eFld 0 T_PatternReader)) eStr)))) (eIx (eFld 0 T_PatternReader) (eFld 0 T_PatternReader)) eStr)))) b
abbrev s_PatternReader_number_told : Stmt := inClass (topS 35) 11
theorem sc_PatternReader_number_told : FnScope ["self", "start", "word"] ["self"] (defScope s_PatternReader_number_told) := ⟨rfl, rfl, rfl, by decide +kernel, rfl, by decide +kernel, by decide +kernel⟩
def f_PatternReader_number_told : FO :=
  sSeq (sDrp (fMeth "PatternReader" 0 "skip" 0 sem_PatternReader_skip fNil))
    (sSeq (sAsg (fFld "PatternReader" 0 "at") (gNm 1))
    (sSeq (sWhile wF [] (fAnd (tVal (fBin dLt (fFld "PatternReader" 0 "at") (fLen (fFld "PatternReader" 0 "line")))) (tVal (fBin dIn (fIx (fFld "PatternReader" 0 "line") (fFld "PatternReader" 0 "at")) (fC c_FIGURES)))) (sFldA (· + ·) "PatternReader" 0 "at" (fC (.int 1))))
    (sSeq (sAsg (fCutX (fFld "PatternReader" 0 "line") (fPt (fSlot 1)) (fPt (fFld "PatternReader" 0 "at"))) (gNm 2))
    (sSeq (sIf (fOr (tVal (fCmpS dEq 2 (fC (.str "")))) (fOr (tVal (fBin dGt (fLenS 2) (fC (.int 2)))) (fOr (fAnd (tVal (fBin dEq (fIxS 2 (fC (.int 0))) (fC (.str "0")))) (tVal (fCmpS dNe 2 (fC (.str "0"))))) (tVal (fBin dGt (fB1 dIntX (fSlot 2)) (fC c_MOST_TIMES)))))) (sDrp (fMeth "PatternReader" 0 "wrong" 1 sem_PatternReader_wrong (fCons (fSlot 1) fNil))) sNil)
    (sRet (fB1 dIntX (fSlot 2)))))))
def sem_PatternReader_number_told : SemM := semOfM 3 "PatternReader" f_PatternReader_number_told
theorem ok_PatternReader_number_told {k : Nat} {f : Addr} {fd : FuncData} (F : Fun K "number_told" "PatternReader.number_told" s_PatternReader_number_told f fd) (b : Binds K fd ["self"] []) {C_PatternReader : Addr} (T_PatternReader : ClsF K "PatternReader" C_PatternReader ["line", "number", "at", "deep"]) (B : Bt mg) (hc_FIGURES : ∃ (u : Value) (v : V), mg "FIGURES" = some u ∧ RelV v u ∧ ∀ G, PD.Dp K G v c_FIGURES) (hc_MOST_TIMES : ∃ (u : Value) (v : V), mg "MOST_TIMES" = some u ∧ RelV v u ∧ ∀ G, PD.Dp K G v c_MOST_TIMES) (K_PatternReader_skip : FnM P w K mg base ex k "PatternReader" "skip" 0 sem_PatternReader_skip) (K_PatternReader_wrong : FnM P w K mg base ex k "PatternReader" "wrong" 1 sem_PatternReader_wrong) (M : Meth K C_PatternReader "number_told" f) : FnM P w K mg base ex (k + 1) "PatternReader" "number_told" 0 sem_PatternReader_number_told := by
  obtain ⟨u_FIGURES, v_FIGURES, hc_FIGURES⟩ := hc_FIGURES
  obtain ⟨u_MOST_TIMES, v_MOST_TIMES, hc_MOST_TIMES⟩ := hc_MOST_TIMES
  have Sc := sc_PatternReader_number_told
  exact fnM T_PatternReader M F Sc (by decide) (by decide) (fun cdv A outer s H E hg => have hr := hg.rm; bCons (kDrp (eMeth0 0 K_PatternReader_skip hg (takes_of rfl rfl rfl rfl) (fun _ _ _ _ _ h => h)))
    (bCons (kSet (i := 1) Sc.nd (eFld 0 T_PatternReader))
    (bCons (kWhile (n := wF) (kl := []) (passes_of rfl) (PW.pt (tAndW (tLt' (eFld 0 T_PatternReader) (eLen B.len (eFld 0 T_PatternReader))) (tAnd1 (tIn' hr (eIx (eFld 0 T_PatternReader) (eFld 0 T_PatternReader)) (eGlob rfl hc_FIGURES.1 hc_FIGURES.2.1 hc_FIGURES.2.2))))) (bOne (kFldA 0 in_add rAdd_ok T_PatternReader eInt)))
    (bCons (kSet (i := 2) Sc.nd (eCutX (eFld 0 T_PatternReader) (pSome (eSlot 1)) (pSome (eFld 0 T_PatternReader))))
    (bCons (kIf (PW.pt (tOrW (tEqS 2 hr eStr) (tOrW (tGt' (eLenS 2 B.len) eInt) (tOrW (PW.pt (tAndW (tEq' hr (eIxS 2 eInt) eStr) (tAnd1 (tNeS 2 hr eStr)))) (tOr1 (tGt' (eIntX B.int (eSlot 2)) (eGlob rfl hc_MOST_TIMES.1 hc_MOST_TIMES.2.1 hc_MOST_TIMES.2.2))))))) (bOne (kDrp (eMeth 0 K_PatternReader_wrong hg (takes_of rfl rfl rfl rfl) (fun _ _ _ _ _ h => h) (aCons (eSlot 1) aNil)))) bNil)
    (bOne (kRet (eIntX B.int (eSlot 2))))))))) b
abbrev s_PatternReader_byte_told : Stmt := inClass (topS 35) 13
theorem sc_PatternReader_byte_told : FnScope ["self", "specials", "start", "sign", "late", "word", "one"] ["self", "specials"] (defScope s_PatternReader_byte_told) := ⟨rfl, rfl, rfl, by decide +kernel, rfl, by decide +kernel, by decide +kernel⟩
def f_PatternReader_byte_told : FO :=
  sSeq (sAsg (fFld "PatternReader" 0 "at") (gNm 2))
    (sSeq (sIf (tVal (fCmpS dEq 2 (fLen (fFld "PatternReader" 0 "line")))) (sDrp (fMeth "PatternReader" 0 "wrong" 1 sem_PatternReader_wrong (fCons (fSlot 2) fNil))) sNil)
    (sSeq (sAsg (fIx (fFld "PatternReader" 0 "line") (fSlot 2)) (gNm 3))
    (sSeq (sFldA (· + ·) "PatternReader" 0 "at" (fC (.int 1)))
    (sSeq (sIf (tVal (fCmpS dNe 3 (fC (.str "\\")))) (sSeq (sIf (tVal (fBin dIsN (fCall 1 sem_byte_of (fCons (fSlot 3) fNil)) (fC .none))) (sDrp (fMeth "PatternReader" 0 "wrong" 1 sem_PatternReader_wrong (fCons (fSlot 2) fNil))) sNil)
    (sRet (fCall 1 sem_byte_of (fCons (fSlot 3) fNil)))) sNil)
    (sSeq (sAsg (fCutX (fFld "PatternReader" 0 "line") (fPt (fFld "PatternReader" 0 "at")) (fPt (fBin dAddX (fFld "PatternReader" 0 "at") (fC (.int 1))))) (gNm 4))
    (sSeq (sIf (tVal (fCmpS dEq 4 (fC (.str "x")))) (sSeq (sAsg (fCutX (fFld "PatternReader" 0 "line") (fPt (fBin dAddX (fFld "PatternReader" 0 "at") (fC (.int 1)))) (fPt (fBin dAddX (fFld "PatternReader" 0 "at") (fC (.int 3))))) (gNm 5))
    (sSeq (sIf (fOr (tVal (fBin dLt (fLenS 5) (fC (.int 2)))) (fNot (tVal (fB1 dAll (fFz (fComp [6] (fItX (fSlot 5)) (gNm 6) fYes (fBin dIn (fSlot 6) (fC c_HEXES)))))))) (sDrp (fMeth "PatternReader" 0 "wrong" 1 sem_PatternReader_wrong (fCons (fSlot 2) fNil))) sNil)
    (sSeq (sFldA (· + ·) "PatternReader" 0 "at" (fC (.int 3)))
    (sRet (fBin dAddX (fBin dMul (fC (.int 16)) (fFind (fC c_HEXES) (fIxS 5 (fC (.int 0))))) (fFind (fC c_HEXES) (fIxS 5 (fC (.int 1))))))))) sNil)
    (sSeq (sIf (fOr (tVal (fCmpS dEq 4 (fC (.str "")))) (tVal (fBin dNin (fSlot 4) (fSlot 1)))) (sDrp (fMeth "PatternReader" 0 "wrong" 1 sem_PatternReader_wrong (fCons (fSlot 2) fNil))) sNil)
    (sSeq (sFldA (· + ·) "PatternReader" 0 "at" (fC (.int 1)))
    (sRet (fCall 1 sem_byte_of (fCons (fSlot 4) fNil)))))))))))
def sem_PatternReader_byte_told : SemM := semOfM 7 "PatternReader" f_PatternReader_byte_told
theorem ok_PatternReader_byte_told {k : Nat} {f : Addr} {fd : FuncData} (F : Fun K "byte_told" "PatternReader.byte_told" s_PatternReader_byte_told f fd) (b : Binds K fd ["self", "specials"] []) {C_PatternReader : Addr} (T_PatternReader : ClsF K "PatternReader" C_PatternReader ["line", "number", "at", "deep"]) (B : Bt mg) (hc_HEXES : ∃ (u : Value) (v : V), mg "HEXES" = some u ∧ RelV v u ∧ ∀ G, PD.Dp K G v c_HEXES) (K_PatternReader_wrong : FnM P w K mg base ex k "PatternReader" "wrong" 1 sem_PatternReader_wrong) (K_byte_of : FnD P w K mg base ex k "byte_of" false 1 sem_byte_of) (M : Meth K C_PatternReader "byte_told" f) : FnM P w K mg base ex (k + 1) "PatternReader" "byte_told" 1 sem_PatternReader_byte_told := by
  obtain ⟨u_HEXES, v_HEXES, hc_HEXES⟩ := hc_HEXES
  have Sc := sc_PatternReader_byte_told
  exact fnM T_PatternReader M F Sc (by decide) (by decide) (fun cdv A outer s H E hg => have hr := hg.rm; bCons (kSet (i := 2) Sc.nd (eFld 0 T_PatternReader))
    (bCons (kIf (tEqS 2 hr (eLen B.len (eFld 0 T_PatternReader))) (bOne (kDrp (eMeth 0 K_PatternReader_wrong hg (takes_of rfl rfl rfl rfl) (fun _ _ _ _ _ h => h) (aCons (eSlot 2) aNil)))) bNil)
    (bCons (kSet (i := 3) Sc.nd (eIx (eFld 0 T_PatternReader) (eSlot 2)))
    (bCons (kFldA 0 in_add rAdd_ok T_PatternReader eInt)
    (bCons (kIf (tNeS 3 hr eStr) (bCons (kIf (tIsN' (eCall K_byte_of hg (takes_of rfl rfl rfl rfl) (aCons (eSlot 3) aNil)) eNon) (bOne (kDrp (eMeth 0 K_PatternReader_wrong hg (takes_of rfl rfl rfl rfl) (fun _ _ _ _ _ h => h) (aCons (eSlot 2) aNil)))) bNil)
    (bOne (kRet (eCall K_byte_of hg (takes_of rfl rfl rfl rfl) (aCons (eSlot 3) aNil))))) bNil)
    (bCons (kSet (i := 4) Sc.nd (eCutX (eFld 0 T_PatternReader) (pSome (eFld 0 T_PatternReader)) (pSome (eAddX (eFld 0 T_PatternReader) eInt))))
    (bCons (kIf (tEqS 4 hr eStr) (bCons (kSet (i := 5) Sc.nd (eCutX (eFld 0 T_PatternReader) (pSome (eAddX (eFld 0 T_PatternReader) eInt)) (pSome (eAddX (eFld 0 T_PatternReader) eInt))))
    (bCons (kIf (PW.pt (tOrW (tLt' (eLenS 5 B.len) eInt) (tOr1 (tNotT (tOf (eAllF rfl B.all (eFz (oComp (own := [("one", 6)]) rfl Sc.nd (iItX (eSlot 5)) (blkOk_by (by kernel_rfl)) (fun _ _ _ _ _ => gName_ (i := 6) Sc.nd) (fun _ _ _ _ _ => tsNil) (fun _ _ _ _ _ => eIn hr (eSlot 6) (eGlob rfl hc_HEXES.1 hc_HEXES.2.1 hc_HEXES.2.2)))))))))) (bOne (kDrp (eMeth 0 K_PatternReader_wrong hg (takes_of rfl rfl rfl rfl) (fun _ _ _ _ _ h => h) (aCons (eSlot 2) aNil)))) bNil)
    (bCons (kFldA 0 in_add rAdd_ok T_PatternReader eInt)
    (bOne (kRet (eAddX (eMul eInt (eFind (eGlob rfl hc_HEXES.1 hc_HEXES.2.1 hc_HEXES.2.2) (eIxS 5 eInt))) (eFind (eGlob rfl hc_HEXES.1 hc_HEXES.2.1 hc_HEXES.2.2) (eIxS 5 eInt)))))))) bNil)
    (bCons (kIf (PW.pt (tOrW (tEqS 4 hr eStr) (tOr1 (tNin' hr (eSlot 4) (eSlot 1))))) (bOne (kDrp (eMeth 0 K_PatternReader_wrong hg (takes_of rfl rfl rfl rfl) (fun _ _ _ _ _ h => h) (aCons (eSlot 2) aNil)))) bNil)
    (bCons (kFldA 0 in_add rAdd_ok T_PatternReader eInt)
    (bOne (kRet (eCall K_byte_of hg (takes_of rfl rfl rfl rfl) (aCons (eSlot 4) aNil))))))))))))) b
abbrev s__law_number : Stmt := topS 43
theorem sc__law_number : FnScope ["_law_cell", "_law_k", "_law_bound", "_law_power", "_law_lap", "_law_remains", "_law_small"] ["_law_cell", "_law_k", "_law_bound"] (defScope s__law_number) := ⟨rfl, rfl, rfl, by decide +kernel, rfl, by decide +kernel, by decide +kernel⟩
def f__law_number : FO :=
  sSeq (sAsg (fC (.int 1)) (gNm 3))
    (sSeq (sFor [4] (fR1 (fCons (fBin dMod (fB1 dIntO (fSlot 1)) (fC (.int 24))) fNil)) (gNm 4) (sAsg (fBin dMul (fSlot 3) (fC (.int 1009))) (gNm 3)))
    (sSeq (sAsg (fBin dDiv (fBin dSub (fSlot 0) (fBin dPow (fC (.int 10)) (fC (.int 18)))) (fSlot 3)) (gNm 5))
    (sSeq (sIf (tVal (fBin dGt (fSlot 5) (fC (.int 0)))) (sRet (fBin dMod (fBin dMod (fB1 dIntO (fSlot 5)) (fC (.int 1009))) (fSlot 2))) sNil)
    (sSeq (sAsg (fBin dMod (fB1 dIntO (fSlot 0)) (fC (.int 1000003))) (gNm 6))
    (sRet (fBin dMod (fCall 3 sem__law_draw (fCons (fBin dMul (fBin dAddX (fSlot 6) (fBin dMul (fC (.int 977)) (fSlot 1))) (fBin dAddX (fBin dAddX (fSlot 6) (fBin dMul (fC (.int 31)) (fSlot 1))) (fC (.int 5)))) (fCons (fBin dAddX (fBin dMod (fB1 dIntO (fSlot 1)) (fC (.int 9))) (fC (.int 1))) (fCons (fC (.int 999983)) fNil)))) (fSlot 2)))))))
def sem__law_number : Sem' := semOf 7 false f__law_number
theorem ok__law_number {k : Nat} {f : Addr} {fd : FuncData} (F : Fun K "_law_number" "_law_number" s__law_number f fd) (b : Binds K fd ["_law_cell", "_law_k", "_law_bound"] []) (g : mg "_law_number" = some (.ref f)) (B : Bt mg) (K__law_draw : FnD P w K mg base ex k "_law_draw" false 3 sem__law_draw) : FnD P w K mg base ex (k + 1) "_law_number" false 3 sem__law_number := by
  have Sc := sc__law_number
  exact fnD F Sc (by decide) (by decide) (fun cdv A outer s H E hg => have hr := hg.rm; bCons (kSet (i := 3) Sc.nd eInt)
    (bCons (kFor (kl := [4]) (passes_of rfl) rfl (iR1 B.range (aCons (eMod (eIntF B.int (eSlot 1)) eInt) aNil)) (gName_ (i := 4) Sc.nd) (bOne (kSet (i := 3) Sc.nd (eMul (eSlot 3) eInt))))
    (bCons (kSet (i := 5) Sc.nd (eDiv (eSub (eSlot 0) (ePow eInt eInt)) (eSlot 3)))
    (bCons (kIf (tGt' (eSlot 5) eInt) (bOne (kRet (eMod (eMod (eIntF B.int (eSlot 5)) eInt) (eSlot 2)))) bNil)
    (bCons (kSet (i := 6) Sc.nd (eMod (eIntF B.int (eSlot 0)) eInt))
    (bOne (kRet (eMod (eCall K__law_draw hg (takes_of rfl rfl rfl rfl) (aCons (eMul (eAddX (eSlot 6) (eMul eInt (eSlot 1))) (eAddX (eAddX (eSlot 6) (eMul eInt (eSlot 1))) eInt)) (aCons (eAddX (eMod (eIntF B.int (eSlot 1)) eInt) eInt) (aCons eInt aNil)))) (eSlot 2))))))))) b g
abbrev s_any_of : Stmt := topS 14
theorem sc_any_of : FnScope ["trees", "found", "tree"] ["trees"] (defScope s_any_of) := ⟨rfl, rfl, rfl, by decide +kernel, rfl, by decide +kernel, by decide +kernel⟩
def f_any_of : FO :=
  sSeq (sSetO 1 (fComp [2] (fItX (fCall 2 sem_sets_together (fCons (fC (.str "any of")) (fCons (fCall 2 sem_flat (fCons (fC (.str "any of")) (fCons (fSlot 0) fNil))) fNil)))) (gNm 2) (tVal (fCmpS dNe 2 (fTup (fCons (fC (.str "nothing")) fNil)))) (fSlot 2)))
    (sSeq (sIf (tVal (fBin dIn (fTup (fCons (fC (.str "not")) (fCons (fTup (fCons (fC (.str "nothing")) fNil)) fNil))) (fSlot 1))) (sRet (fTup (fCons (fC (.str "not")) (fCons (fTup (fCons (fC (.str "nothing")) fNil)) fNil)))) sNil)
    (sSeq (sIf (tVal (fCmpS dEq 1 (fFz (fLim fNil)))) (sRet (fTup (fCons (fC (.str "nothing")) fNil))) sNil)
    (sRet (fIf (tVal (fBin dEq (fLenS 1) (fC (.int 1)))) (fIxS 1 (fC (.int 0))) (fTup (fCons (fC (.str "any of")) (fCons (fB1 dTup (fSlot 1)) fNil)))))))
def sem_any_of : Sem' := semOf 3 false f_any_of
theorem ok_any_of {k : Nat} {f : Addr} {fd : FuncData} (F : Fun K "any_of" "any_of" s_any_of f fd) (b : Binds K fd ["trees"] []) (g : mg "any_of" = some (.ref f)) (B : Bt mg) (K_sets_together : FnD P w K mg base ex k "sets_together" false 2 sem_sets_together) (K_flat : FnD P w K mg base ex k "flat" false 2 sem_flat) : FnD P w K mg base ex (k + 1) "any_of" false 1 sem_any_of := by
  have Sc := sc_any_of
  exact fnD F Sc (by decide) (by decide) (fun cdv A outer s H E hg => have hr := hg.rm; bCons (kSetLc (i := 1) (own := [("tree", 2)]) rfl Sc.nd (iItX (eCall K_sets_together hg (takes_of rfl rfl rfl rfl) (aCons eStr (aCons (eCall K_flat hg (takes_of rfl rfl rfl rfl) (aCons eStr (aCons (eSlot 0) aNil))) aNil)))) (blkOk_by (by kernel_rfl)) (fun _ _ _ _ _ => gName_ (i := 2) Sc.nd) (fun _ _ _ _ _ => tsOne (tNeS 2 hr (eTup (aCons eStr aNil)))) (fun _ _ _ _ _ => eSlot 2))
    (bCons (kIf (tIn' hr (eTup (aCons eStr (aCons (eTup (aCons eStr aNil)) aNil))) (eSlot 1)) (bOne (kRet (eTup (aCons eStr (aCons (eTup (aCons eStr aNil)) aNil))))) bNil)
    (bCons (kIf (tEqS 1 hr (eFz (oLst aNil))) (bOne (kRet (eTup (aCons eStr aNil)))) bNil)
    (bOne (kRet (eIfE (tEq' hr (eLenS 1 B.len) eInt) (eIxS 1 eInt) (eTup (aCons eStr (aCons (eTupF B.tuple (eSlot 1)) aNil))))))))) b g
abbrev s_all_of : Stmt := topS 15
theorem sc_all_of : FnScope ["trees", "found", "tree"] ["trees"] (defScope s_all_of) := ⟨rfl, rfl, rfl, by decide +kernel, rfl, by decide +kernel, by decide +kernel⟩
def f_all_of : FO :=
  sSeq (sSetO 1 (fComp [2] (fItX (fCall 2 sem_sets_together (fCons (fC (.str "all of")) (fCons (fCall 2 sem_flat (fCons (fC (.str "all of")) (fCons (fSlot 0) fNil))) fNil)))) (gNm 2) (tVal (fCmpS dNe 2 (fTup (fCons (fC (.str "not")) (fCons (fTup (fCons (fC (.str "nothing")) fNil)) fNil))))) (fSlot 2)))
    (sSeq (sIf (tVal (fBin dIn (fTup (fCons (fC (.str "nothing")) fNil)) (fSlot 1))) (sRet (fTup (fCons (fC (.str "nothing")) fNil))) sNil)
    (sSeq (sIf (tVal (fCmpS dEq 1 (fFz (fLim fNil)))) (sRet (fTup (fCons (fC (.str "not")) (fCons (fTup (fCons (fC (.str "nothing")) fNil)) fNil)))) sNil)
    (sRet (fIf (tVal (fBin dEq (fLenS 1) (fC (.int 1)))) (fIxS 1 (fC (.int 0))) (fTup (fCons (fC (.str "all of")) (fCons (fB1 dTup (fSlot 1)) fNil)))))))
def sem_all_of : Sem' := semOf 3 false f_all_of
theorem ok_all_of {k : Nat} {f : Addr} {fd : FuncData} (F : Fun K "all_of" "all_of" s_all_of f fd) (b : Binds K fd ["trees"] []) (g : mg "all_of" = some (.ref f)) (B : Bt mg) (K_sets_together : FnD P w K mg base ex k "sets_together" false 2 sem_sets_together) (K_flat : FnD P w K mg base ex k "flat" false 2 sem_flat) : FnD P w K mg base ex (k + 1) "all_of" false 1 sem_all_of := by
  have Sc := sc_all_of
  exact fnD F Sc (by decide) (by decide) (fun cdv A outer s H E hg => have hr := hg.rm; bCons (kSetLc (i := 1) (own := [("tree", 2)]) rfl Sc.nd (iItX (eCall K_sets_together hg (takes_of rfl rfl rfl rfl) (aCons eStr (aCons (eCall K_flat hg (takes_of rfl rfl rfl rfl) (aCons eStr (aCons (eSlot 0) aNil))) aNil)))) (blkOk_by (by kernel_rfl)) (fun _ _ _ _ _ => gName_ (i := 2) Sc.nd) (fun _ _ _ _ _ => tsOne (tNeS 2 hr (eTup (aCons eStr (aCons (eTup (aCons eStr aNil)) aNil))))) (fun _ _ _ _ _ => eSlot 2))
    (bCons (kIf (tIn' hr (eTup (aCons eStr aNil)) (eSlot 1)) (bOne (kRet (eTup (aCons eStr aNil)))) bNil)
    (bCons (kIf (tEqS 1 hr (eFz (oLst aNil))) (bOne (kRet (eTup (aCons eStr (aCons (eTup (aCons eStr aNil)) aNil))))) bNil)
    (bOne (kRet (eIfE (tEq' hr (eLenS 1 B.len) eInt) (eIxS 1 eInt) (eTup (aCons eStr (aCons (eTupF B.tuple (eSlot 1)) aNil))))))))) b g
abbrev s_PatternReader_took : Stmt := inClass (topS 35) 4
theorem sc_PatternReader_took : FnScope ["self", "sign"] ["self", "sign"] (defScope s_PatternReader_took) := ⟨rfl, rfl, rfl, by decide +kernel, rfl, by decide +kernel, by decide +kernel⟩
def f_PatternReader_took : FO :=
  sSeq (sIf (tVal (fBin dEq (fMeth "PatternReader" 0 "sign" 0 sem_PatternReader_sign fNil) (fSlot 1))) (sSeq (sFldA (· + ·) "PatternReader" 0 "at" (fC (.int 1)))
    (sRet (fC (.bool true)))) sNil)
    (sRet (fC (.bool false)))
def sem_PatternReader_took : SemM := semOfM 2 "PatternReader" f_PatternReader_took
theorem ok_PatternReader_took {k : Nat} {f : Addr} {fd : FuncData} (F : Fun K "took" "PatternReader.took" s_PatternReader_took f fd) (b : Binds K fd ["self", "sign"] []) {C_PatternReader : Addr} (T_PatternReader : ClsF K "PatternReader" C_PatternReader ["line", "number", "at", "deep"]) (K_PatternReader_sign : FnM P w K mg base ex k "PatternReader" "sign" 0 sem_PatternReader_sign) (M : Meth K C_PatternReader "took" f) : FnM P w K mg base ex (k + 1) "PatternReader" "took" 1 sem_PatternReader_took := by
  have Sc := sc_PatternReader_took
  exact fnM T_PatternReader M F Sc (by decide) (by decide) (fun cdv A outer s H E hg => have hr := hg.rm; bCons (kIf (tEq' hr (eMeth0 0 K_PatternReader_sign hg (takes_of rfl rfl rfl rfl) (fun _ _ _ _ _ h => h)) (eSlot 1)) (bCons (kFldA 0 in_add rAdd_ok T_PatternReader eInt)
    (bOne (kRet eBl))) bNil)
    (bOne (kRet eBl))) b
abbrev s_PatternReader_class_byte : Stmt := inClass (topS 35) 15
theorem sc_PatternReader_class_byte : FnScope ["self"] ["self"] (defScope s_PatternReader_class_byte) := ⟨rfl, rfl, rfl, by decide +kernel, rfl, by decide +kernel, by decide +kernel⟩
def f_PatternReader_class_byte : FO :=
  sSeq (sIf (tVal (fBin dIn (fCutX (fFld "PatternReader" 0 "line") (fPt (fFld "PatternReader" 0 "at")) (fPt (fBin dAddX (fFld "PatternReader" 0 "at") (fC (.int 1))))) (fTup (fCons (fC (.str "^")) (fCons (fC (.str "-")) (fCons (fC (.str " ")) (fCons (fC (.str "]")) fNil))))))) (sDrp (fMeth "PatternReader" 0 "wrong" 1 sem_PatternReader_wrong (fCons (fFld "PatternReader" 0 "at") fNil))) sNil)
    (sRet (fMeth "PatternReader" 0 "byte_told" 1 sem_PatternReader_byte_told (fCons (fC c_IN_CLASSES) fNil)))
def sem_PatternReader_class_byte : SemM := semOfM 1 "PatternReader" f_PatternReader_class_byte
theorem ok_PatternReader_class_byte {k : Nat} {f : Addr} {fd : FuncData} (F : Fun K "class_byte" "PatternReader.class_byte" s_PatternReader_class_byte f fd) (b : Binds K fd ["self"] []) {C_PatternReader : Addr} (T_PatternReader : ClsF K "PatternReader" C_PatternReader ["line", "number", "at", "deep"]) (hc_IN_CLASSES : ∃ (u : Value) (v : V), mg "IN_CLASSES" = some u ∧ RelV v u ∧ ∀ G, PD.Dp K G v c_IN_CLASSES) (K_PatternReader_wrong : FnM P w K mg base ex k "PatternReader" "wrong" 1 sem_PatternReader_wrong) (K_PatternReader_byte_told : FnM P w K mg base ex k "PatternReader" "byte_told" 1 sem_PatternReader_byte_told) (M : Meth K C_PatternReader "class_byte" f) : FnM P w K mg base ex (k + 1) "PatternReader" "class_byte" 0 sem_PatternReader_class_byte := by
  obtain ⟨u_IN_CLASSES, v_IN_CLASSES, hc_IN_CLASSES⟩ := hc_IN_CLASSES
  have Sc := sc_PatternReader_class_byte
  exact fnM T_PatternReader M F Sc (by decide) (by decide) (fun cdv A outer s H E hg => have hr := hg.rm; bCons (kIf (tIn' hr (eCutX (eFld 0 T_PatternReader) (pSome (eFld 0 T_PatternReader)) (pSome (eAddX (eFld 0 T_PatternReader) eInt))) (eTup (aCons eStr (aCons eStr (aCons eStr (aCons eStr aNil)))))) (bOne (kDrp (eMeth 0 K_PatternReader_wrong hg (takes_of rfl rfl rfl rfl) (fun _ _ _ _ _ h => h) (aCons (eFld 0 T_PatternReader) aNil)))) bNil)
    (bOne (kRet (eMeth 0 K_PatternReader_byte_told hg (takes_of rfl rfl rfl rfl) (fun _ _ _ _ _ h => h) (aCons (eGlob rfl hc_IN_CLASSES.1 hc_IN_CLASSES.2.1 hc_IN_CLASSES.2.2) aNil))))) b
abbrev s__law_next : Stmt := topS 44
theorem sc__law_next : FnScope ["_law_draw_here", "_law_bound", "_law_at", "_law_cell"] ["_law_draw_here", "_law_bound"] (defScope s__law_next) := ⟨rfl, rfl, rfl, by decide +kernel, rfl, by decide +kernel, by decide +kernel⟩
def f__law_next : FO :=
  sSeq (sHd 0 (fBin dAddX (fHd 0 2) (fC (.int 1))))
    (sSeq (sAsg (fBin dDiv (fHd 0 2) (fC (.int 12))) (gNm 2))
    (sSeq (sAsg (fBin dAddX (fCall 2 sem__law_cell_at (fCons (fHd 0 0) (fCons (fBin dAddX (fHd 0 1) (fSlot 2)) fNil))) (fBin dMul (fC (.int 31)) (fSlot 2))) (gNm 3))
    (sRet (fCall 3 sem__law_number (fCons (fSlot 3) (fCons (fBin dAddX (fBin dMod (fB1 dIntO (fHd 0 2)) (fC (.int 12))) (fC (.int 1))) (fCons (fSlot 1) fNil)))))))
def sem__law_next : Sem' := semOf 4 true f__law_next
theorem ok__law_next {k : Nat} {f : Addr} {fd : FuncData} (F : Fun K "_law_next" "_law_next" s__law_next f fd) (b : Binds K fd ["_law_draw_here", "_law_bound"] []) (g : mg "_law_next" = some (.ref f)) (B : Bt mg) (K__law_cell_at : FnD P w K mg base ex k "_law_cell_at" false 2 sem__law_cell_at) (K__law_number : FnD P w K mg base ex k "_law_number" false 3 sem__law_number) : FnD P w K mg base ex (k + 1) "_law_next" true 1 sem__law_next := by
  have Sc := sc__law_next
  exact fnD F Sc (by decide) (by decide) (fun cdv A outer s H E hg => have hr := hg.rm; bCons (kHd 0 (eAddX (eHd 0) eInt))
    (bCons (kSet (i := 2) Sc.nd (eDiv (eHd 0) eInt))
    (bCons (kSet (i := 3) Sc.nd (eAddX (eCall K__law_cell_at hg (takes_of rfl rfl rfl rfl) (aCons (eHd 0) (aCons (eAddX (eHd 0) (eSlot 2)) aNil))) (eMul eInt (eSlot 2))))
    (bOne (kRet (eCall K__law_number hg (takes_of rfl rfl rfl rfl) (aCons (eSlot 3) (aCons (eAddX (eMod (eIntF B.int (eHd 0)) eInt) eInt) (aCons (eSlot 1) aNil))))))))) b g
abbrev s_PatternReader_some_told : Stmt := inClass (topS 35) 14
theorem sc_PatternReader_some_told : FnScope ["self", "is_not", "found", "first", "last", "start"] ["self"] (defScope s_PatternReader_some_told) := ⟨rfl, rfl, rfl, by decide +kernel, rfl, by decide +kernel, by decide +kernel⟩
def f_PatternReader_some_told : FO :=
  sSeq (sPar [1, 2] (fCons (fBin dEq (fCutX (fFld "PatternReader" 0 "line") (fPt (fFld "PatternReader" 0 "at")) (fPt (fBin dAddX (fFld "PatternReader" 0 "at") (fC (.int 1))))) (fC (.str "^"))) (fCons (fC (.int 0)) fNil)))
    (sSeq (sIf (tVal (fSlot 1)) (sFldA (· + ·) "PatternReader" 0 "at" (fC (.int 1))) sNil)
    (sWhile wF [3, 4, 5] (tVal (fC (.bool true))) (sSeq (sDrp (fMeth "PatternReader" 0 "skip" 0 sem_PatternReader_skip fNil))
    (sSeq (sIf (tVal (fBin dEq (fCutX (fFld "PatternReader" 0 "line") (fPt (fFld "PatternReader" 0 "at")) (fPt (fBin dAddX (fFld "PatternReader" 0 "at") (fC (.int 1))))) (fC (.str "]")))) (sSeq (sFldA (· + ·) "PatternReader" 0 "at" (fC (.int 1)))
    (sRet (fIf (tVal (fSlot 1)) (fCall 1 sem_without (fCons (fSlot 2) fNil)) (fSlot 2)))) sNil)
    (sSeq (sAsg (fMeth "PatternReader" 0 "class_byte" 0 sem_PatternReader_class_byte fNil) (gNm 3))
    (sSeq (sAsg (fSlot 3) (gNm 4))
    (sSeq (sIf (tVal (fBin dEq (fCutX (fFld "PatternReader" 0 "line") (fPt (fFld "PatternReader" 0 "at")) (fPt (fBin dAddX (fFld "PatternReader" 0 "at") (fC (.int 1))))) (fC (.str "-")))) (sSeq (sAsg (fFld "PatternReader" 0 "at") (gNm 5))
    (sSeq (sFldA (· + ·) "PatternReader" 0 "at" (fC (.int 1)))
    (sSeq (sAsg (fMeth "PatternReader" 0 "class_byte" 0 sem_PatternReader_class_byte fNil) (gNm 4))
    (sIf (tVal (fBin dLt (fSlot 4) (fSlot 3))) (sDrp (fMeth "PatternReader" 0 "wrong" 1 sem_PatternReader_wrong (fCons (fSlot 5) fNil))) sNil)))) sNil)
    (sAug 2 dOr (fCall 2 sem_range_set (fCons (fSlot 3) (fCons (fSlot 4) fNil)))))))))))
def sem_PatternReader_some_told : SemM := semOfM 6 "PatternReader" f_PatternReader_some_told
theorem ok_PatternReader_some_told {k : Nat} {f : Addr} {fd : FuncData} (F : Fun K "some_told" "PatternReader.some_told" s_PatternReader_some_told f fd) (b : Binds K fd ["self"] []) {C_PatternReader : Addr} (T_PatternReader : ClsF K "PatternReader" C_PatternReader ["line", "number", "at", "deep"]) (K_PatternReader_skip : FnM P w K mg base ex k "PatternReader" "skip" 0 sem_PatternReader_skip) (K_without : FnD P w K mg base ex k "without" false 1 sem_without) (K_PatternReader_class_byte : FnM P w K mg base ex k "PatternReader" "class_byte" 0 sem_PatternReader_class_byte) (K_PatternReader_wrong : FnM P w K mg base ex k "PatternReader" "wrong" 1 sem_PatternReader_wrong) (K_range_set : FnD P w K mg base ex k "range_set" false 2 sem_range_set) (M : Meth K C_PatternReader "some_told" f) : FnM P w K mg base ex (k + 1) "PatternReader" "some_told" 0 sem_PatternReader_some_told := by
  have Sc := sc_PatternReader_some_told
  exact fnM T_PatternReader M F Sc (by decide) (by decide) (fun cdv A outer s H E hg => have hr := hg.rm; bCons (kPar2 (i0 := 1) (i1 := 2) Sc.nd (aCons (eEq hr (eCutX (eFld 0 T_PatternReader) (pSome (eFld 0 T_PatternReader)) (pSome (eAddX (eFld 0 T_PatternReader) eInt))) eStr) (aCons eInt aNil)))
    (bCons (kIf (tOf (eSlot 1)) (bOne (kFldA 0 in_add rAdd_ok T_PatternReader eInt)) bNil)
    (bOne (kWhile (n := wF) (kl := [3, 4, 5]) (passes_of rfl) (tOf eBl) (bCons (kDrp (eMeth0 0 K_PatternReader_skip hg (takes_of rfl rfl rfl rfl) (fun _ _ _ _ _ h => h)))
    (bCons (kIf (tEq' hr (eCutX (eFld 0 T_PatternReader) (pSome (eFld 0 T_PatternReader)) (pSome (eAddX (eFld 0 T_PatternReader) eInt))) eStr) (bCons (kFldA 0 in_add rAdd_ok T_PatternReader eInt)
    (bOne (kRet (eIfE (tOf (eSlot 1)) (eCall K_without hg (takes_of rfl rfl rfl rfl) (aCons (eSlot 2) aNil)) (eSlot 2))))) bNil)
    (bCons (kSet (i := 3) Sc.nd (eMeth0 0 K_PatternReader_class_byte hg (takes_of rfl rfl rfl rfl) (fun _ _ _ _ _ h => h)))
    (bCons (kSet (i := 4) Sc.nd (eSlot 3))
    (bCons (kIf (tEq' hr (eCutX (eFld 0 T_PatternReader) (pSome (eFld 0 T_PatternReader)) (pSome (eAddX (eFld 0 T_PatternReader) eInt))) eStr) (bCons (kSet (i := 5) Sc.nd (eFld 0 T_PatternReader))
    (bCons (kFldA 0 in_add rAdd_ok T_PatternReader eInt)
    (bCons (kSet (i := 4) Sc.nd (eMeth0 0 K_PatternReader_class_byte hg (takes_of rfl rfl rfl rfl) (fun _ _ _ _ _ h => h)))
    (bOne (kIf (tLt' (eSlot 4) (eSlot 3)) (bOne (kDrp (eMeth 0 K_PatternReader_wrong hg (takes_of rfl rfl rfl rfl) (fun _ _ _ _ _ h => h) (aCons (eSlot 5) aNil)))) bNil))))) bNil)
    (bOne (kAug (i := 2) iop_or od_or Sc.nd (eCall K_range_set hg (takes_of rfl rfl rfl rfl) (aCons (eSlot 3) (aCons (eSlot 4) aNil)))))))))))))) b
abbrev s__law_pick : Stmt := topS 45
theorem sc__law_pick : FnScope ["_law_draw_here", "_law_things"] ["_law_draw_here", "_law_things"] (defScope s__law_pick) := ⟨rfl, rfl, rfl, by decide +kernel, rfl, by decide +kernel, by decide +kernel⟩
def f__law_pick : FO :=
  sRet (fIxS 1 (fCallH 1 0 sem__law_next (fCons (fLenS 1) fNil)))
def sem__law_pick : Sem' := semOf 2 true f__law_pick
theorem ok__law_pick {k : Nat} {f : Addr} {fd : FuncData} (F : Fun K "_law_pick" "_law_pick" s__law_pick f fd) (b : Binds K fd ["_law_draw_here", "_law_things"] []) (g : mg "_law_pick" = some (.ref f)) (B : Bt mg) (K__law_next : FnD P w K mg base ex k "_law_next" true 1 sem__law_next) : FnD P w K mg base ex (k + 1) "_law_pick" true 1 sem__law_pick := by
  have Sc := sc__law_pick
  exact fnD F Sc (by decide) (by decide) (fun cdv A outer s H E hg => have hr := hg.rm; bOne (kRet (eIxS 1 (eCallH 0 K__law_next hg (takes_of rfl rfl rfl rfl) (aCons (eLenS 1 B.len) aNil))))) b g
abbrev s_row : Stmt := topS 11
theorem sc_row : FnScope ["one", "other"] ["one", "other"] (defScope s_row) := ⟨rfl, rfl, rfl, by decide +kernel, rfl, by decide +kernel, by decide +kernel⟩
def f_row (sem_row : Sem') : FO :=
  sSeq (sIf (fOr (tVal (fCmpS dEq 0 (fTup (fCons (fC (.str "nothing")) fNil)))) (tVal (fCmpS dEq 1 (fTup (fCons (fC (.str "nothing")) fNil))))) (sRet (fTup (fCons (fC (.str "nothing")) fNil))) sNil)
    (sSeq (sIf (fOr (tVal (fCmpS dEq 0 (fTup (fCons (fC (.str "empty")) fNil)))) (tVal (fCmpS dEq 1 (fTup (fCons (fC (.str "empty")) fNil))))) (sRet (fIf (tVal (fCmpS dEq 1 (fTup (fCons (fC (.str "empty")) fNil)))) (fSlot 0) (fSlot 1))) sNil)
    (sSeq (sIf (tVal (fBin dEq (fIxS 0 (fC (.int 0))) (fC (.str "row")))) (sRet (fCall 2 sem_row (fCons (fIxS 0 (fC (.int 1))) (fCons (fCall 2 sem_row (fCons (fIxS 0 (fC (.int 2))) (fCons (fSlot 1) fNil))) fNil)))) sNil)
    (sRet (fTup (fCons (fC (.str "row")) (fCons (fSlot 0) (fCons (fSlot 1) fNil)))))))
def semN_row : Nat → Sem'
  | 0 => fun _ _ => .bad
  | n + 1 => semOf 2 false (f_row (semN_row n))
def sem_row : Sem' := semN_row 14
theorem ok_row {k : Nat} {f : Addr} {fd : FuncData} (F : Fun K "row" "row" s_row f fd) (b : Binds K fd ["one", "other"] []) (g : mg "row" = some (.ref f))  : ∀ n : Nat, FnD P w K mg base ex (k + n) "row" false 2 (semN_row n)
  | 0 => fnD_bad F.kp b g
  | n + 1 => by
    have K_row := ok_row (k := k) F b g  n
    have Sc := sc_row
    exact fnD F Sc (by decide) (by decide) (fun cdv A outer s H E hg => have hr := hg.rm; bCons (kIf (PW.pt (tOrW (tEqS 0 hr (eTup (aCons eStr aNil))) (tOr1 (tEqS 1 hr (eTup (aCons eStr aNil)))))) (bOne (kRet (eTup (aCons eStr aNil)))) bNil)
    (bCons (kIf (PW.pt (tOrW (tEqS 0 hr (eTup (aCons eStr aNil))) (tOr1 (tEqS 1 hr (eTup (aCons eStr aNil)))))) (bOne (kRet (eIfE (tEqS 1 hr (eTup (aCons eStr aNil))) (eSlot 0) (eSlot 1)))) bNil)
    (bCons (kIf (tEq' hr (eIxS 0 eInt) eStr) (bOne (kRet (eCall K_row hg (takes_of rfl rfl rfl rfl) (aCons (eIxS 0 eInt) (aCons (eCall K_row hg (takes_of rfl rfl rfl rfl) (aCons (eIxS 0 eInt) (aCons (eSlot 1) aNil))) aNil))))) bNil)
    (bOne (kRet (eTup (aCons eStr (aCons (eSlot 0) (aCons (eSlot 1) aNil))))))))) b g
abbrev s_size_of : Stmt := topS 19
theorem sc_size_of : FnScope ["tree", "parts", "part"] ["tree"] (defScope s_size_of) := ⟨rfl, rfl, rfl, by decide +kernel, rfl, by decide +kernel, by decide +kernel⟩
def f_size_of (sem_size_of : Sem') : FO :=
  sSeq (sAsg (fIf (tVal (fBin dIn (fIxS 0 (fC (.int 0))) (fTup (fCons (fC (.str "any of")) (fCons (fC (.str "all of")) fNil))))) (fIxS 0 (fC (.int 1))) (fIf (tVal (fBin dIn (fIxS 0 (fC (.int 0))) (fTup (fCons (fC (.str "row")) (fCons (fC (.str "not")) (fCons (fC (.str "again")) fNil)))))) (fCutX (fSlot 0) (fPt (fC (.int 1))) fNoP) (fTup fNil))) (gNm 1))
    (sRet (fBin dAddX (fC (.int 1)) (fB1 dSum (fFz (fComp [2] (fItX (fSlot 1)) (gNm 2) fYes (fCall 1 sem_size_of (fCons (fSlot 2) fNil)))))))
def semN_size_of : Nat → Sem'
  | 0 => fun _ _ => .bad
  | n + 1 => semOf 3 false (f_size_of (semN_size_of n))
def sem_size_of : Sem' := semN_size_of 14
theorem ok_size_of {k : Nat} {f : Addr} {fd : FuncData} (F : Fun K "size_of" "size_of" s_size_of f fd) (b : Binds K fd ["tree"] []) (g : mg "size_of" = some (.ref f)) (B : Bt mg) : ∀ n : Nat, FnD P w K mg base ex (k + n) "size_of" false 1 (semN_size_of n)
  | 0 => fnD_bad F.kp b g
  | n + 1 => by
    have K_size_of := ok_size_of (k := k) F b g B n
    have Sc := sc_size_of
    exact fnD F Sc (by decide) (by decide) (fun cdv A outer s H E hg => have hr := hg.rm; bCons (kSet (i := 1) Sc.nd (eIfE (tIn' hr (eIxS 0 eInt) (eTup (aCons eStr (aCons eStr aNil)))) (eIxS 0 eInt) (eIfE (tIn' hr (eIxS 0 eInt) (eTup (aCons eStr (aCons eStr (aCons eStr aNil))))) (eCutX (eSlot 0) (pSome eInt) pNone) (eTup aNil))))
    (bOne (kRet (eAddX eInt (eSumF rfl B.sum (eFz (oComp (own := [("part", 2)]) rfl Sc.nd (iItX (eSlot 1)) (blkOk_by (by kernel_rfl)) (fun _ _ _ _ _ => gName_ (i := 2) Sc.nd) (fun _ _ _ _ _ => tsNil) (fun _ _ _ _ _ => eCall K_size_of hg takes0 (aCons (eSlot 2) aNil))))))))) b g
abbrev s_has_empty : Stmt := topS 21
theorem sc_has_empty : FnScope ["tree", "word", "part"] ["tree"] (defScope s_has_empty) := ⟨rfl, rfl, rfl, by decide +kernel, rfl, by decide +kernel, by decide +kernel⟩
def f_has_empty (sem_has_empty : Sem') : FO :=
  sSeq (sAsg (fIxS 0 (fC (.int 0))) (gNm 1))
    (sSeq (sIf (tVal (fCmpS dEq 1 (fC (.str "row")))) (sRet (fAndV (fCall 1 sem_has_empty (fCons (fIxS 0 (fC (.int 1))) fNil)) (fCall 1 sem_has_empty (fCons (fIxS 0 (fC (.int 2))) fNil)))) sNil)
    (sSeq (sIf (tVal (fCmpS dEq 1 (fC (.str "any of")))) (sRet (fB1 dAny (fFz (fComp [2] (fItX (fIxS 0 (fC (.int 1)))) (gNm 2) fYes (fCall 1 sem_has_empty (fCons (fSlot 2) fNil)))))) sNil)
    (sSeq (sIf (tVal (fCmpS dEq 1 (fC (.str "all of")))) (sRet (fB1 dAll (fFz (fComp [2] (fItX (fIxS 0 (fC (.int 1)))) (gNm 2) fYes (fCall 1 sem_has_empty (fCons (fSlot 2) fNil)))))) sNil)
    (sSeq (sIf (tVal (fCmpS dEq 1 (fC (.str "not")))) (sRet (fNotV (fCall 1 sem_has_empty (fCons (fIxS 0 (fC (.int 1))) fNil)))) sNil)
    (sRet (fBin dIn (fSlot 1) (fTup (fCons (fC (.str "empty")) (fCons (fC (.str "again")) fNil)))))))))
def semN_has_empty : Nat → Sem'
  | 0 => fun _ _ => .bad
  | n + 1 => semOf 3 false (f_has_empty (semN_has_empty n))
def sem_has_empty : Sem' := semN_has_empty 14
theorem ok_has_empty {k : Nat} {f : Addr} {fd : FuncData} (F : Fun K "has_empty" "has_empty" s_has_empty f fd) (b : Binds K fd ["tree"] []) (g : mg "has_empty" = some (.ref f)) (B : Bt mg) : ∀ n : Nat, FnD P w K mg base ex (k + n) "has_empty" false 1 (semN_has_empty n)
  | 0 => fnD_bad F.kp b g
  | n + 1 => by
    have K_has_empty := ok_has_empty (k := k) F b g B n
    have Sc := sc_has_empty
    exact fnD F Sc (by decide) (by decide) (fun cdv A outer s H E hg => have hr := hg.rm; bCons (kSet (i := 1) Sc.nd (eIxS 0 eInt))
    (bCons (kIf (tEqS 1 hr eStr) (bOne (kRet (eAndV (eCall K_has_empty hg (takes_of rfl rfl rfl rfl) (aCons (eIxS 0 eInt) aNil)) (eOneV (eCall K_has_empty hg (takes_of rfl rfl rfl rfl) (aCons (eIxS 0 eInt) aNil)))))) bNil)
    (bCons (kIf (tEqS 1 hr eStr) (bOne (kRet (eAnyF rfl B.any (eFz (oComp (own := [("part", 2)]) rfl Sc.nd (iItX (eIxS 0 eInt)) (blkOk_by (by kernel_rfl)) (fun _ _ _ _ _ => gName_ (i := 2) Sc.nd) (fun _ _ _ _ _ => tsNil) (fun _ _ _ _ _ => eCall K_has_empty hg takes0 (aCons (eSlot 2) aNil))))))) bNil)
    (bCons (kIf (tEqS 1 hr eStr) (bOne (kRet (eAllF rfl B.all (eFz (oComp (own := [("part", 2)]) rfl Sc.nd (iItX (eIxS 0 eInt)) (blkOk_by (by kernel_rfl)) (fun _ _ _ _ _ => gName_ (i := 2) Sc.nd) (fun _ _ _ _ _ => tsNil) (fun _ _ _ _ _ => eCall K_has_empty hg takes0 (aCons (eSlot 2) aNil))))))) bNil)
    (bCons (kIf (tEqS 1 hr eStr) (bOne (kRet (eNotV (eCall K_has_empty hg (takes_of rfl rfl rfl rfl) (aCons (eIxS 0 eInt) aNil))))) bNil)
    (bOne (kRet (eIn hr (eSlot 1) (eTup (aCons eStr (aCons eStr aNil))))))))))) b g
abbrev s_times : Stmt := topS 18
theorem sc_times : FnScope ["tree", "least", "most", "found", "turn"] ["tree", "least", "most"] (defScope s_times) := ⟨rfl, rfl, rfl, by decide +kernel, rfl, by decide +kernel, by decide +kernel⟩
def f_times : FO :=
  sSeq (sAsg (fIf (tVal (fBin dIsN (fSlot 2) (fC .none))) (fCall 1 sem_again (fCons (fSlot 0) fNil)) (fTup (fCons (fC (.str "empty")) fNil))) (gNm 3))
    (sSeq (sFor [4] (fR1 (fCons (fIf (tVal (fBin dIsN (fSlot 2) (fC .none))) (fC (.int 0)) (fBin dSub (fSlot 2) (fSlot 1))) fNil)) (gNm 4) (sAsg (fCall 1 sem_any_of (fCons (fFz (fLim (fCons (fTup (fCons (fC (.str "empty")) fNil)) (fCons (fCall 2 sem_row (fCons (fSlot 0) (fCons (fSlot 3) fNil))) fNil)))) fNil)) (gNm 3)))
    (sSeq (sFor [] (fR1 (fCons (fSlot 1) fNil)) (gNm 4) (sAsg (fCall 2 sem_row (fCons (fSlot 0) (fCons (fSlot 3) fNil))) (gNm 3)))
    (sRet (fSlot 3))))
def sem_times : Sem' := semOf 5 false f_times
theorem ok_times {k : Nat} {f : Addr} {fd : FuncData} (F : Fun K "times" "times" s_times f fd) (b : Binds K fd ["tree", "least", "most"] []) (g : mg "times" = some (.ref f)) (B : Bt mg) (K_again : FnD P w K mg base ex k "again" false 1 sem_again) (K_any_of : FnD P w K mg base ex k "any_of" false 1 sem_any_of) (K_row : FnD P w K mg base ex k "row" false 2 sem_row) : FnD P w K mg base ex (k + 1) "times" false 3 sem_times := by
  have Sc := sc_times
  exact fnD F Sc (by decide) (by decide) (fun cdv A outer s H E hg => have hr := hg.rm; bCons (kSet (i := 3) Sc.nd (eIfE (tIsN' (eSlot 2) eNon) (eCall K_again hg (takes_of rfl rfl rfl rfl) (aCons (eSlot 0) aNil)) (eTup (aCons eStr aNil))))
    (bCons (kFor (kl := [4]) (passes_of rfl) rfl (iR1 B.range (aCons (eIfE (tIsN' (eSlot 2) eNon) eInt (eSub (eSlot 2) (eSlot 1))) aNil)) (gName_ (i := 4) Sc.nd) (bOne (kSet (i := 3) Sc.nd (eCall K_any_of hg (takes_of rfl rfl rfl rfl) (aCons (eFz (oLst (aCons (eTup (aCons eStr aNil)) (aCons (eCall K_row hg (takes_of rfl rfl rfl rfl) (aCons (eSlot 0) (aCons (eSlot 3) aNil))) aNil)))) aNil)))))
    (bCons (kFor (kl := []) (passes_of rfl) rfl (iR1 B.range (aCons (eSlot 1) aNil)) (gName_ (i := 4) Sc.nd) (bOne (kSet (i := 3) Sc.nd (eCall K_row hg (takes_of rfl rfl rfl rfl) (aCons (eSlot 0) (aCons (eSlot 3) aNil))))))
    (bOne (kRet (eSlot 3)))))) b g
abbrev s_PatternReader_small : Stmt := inClass (topS 35) 9
theorem sc_PatternReader_small : FnScope ["self", "tree", "at"] ["self", "tree", "at"] (defScope s_PatternReader_small) := ⟨rfl, rfl, rfl, by decide +kernel, rfl, by decide +kernel, by decide +kernel⟩
def f_PatternReader_small : FO :=
  sSeq (sIf (tVal (fBin dGt (fCall 1 sem_size_of (fCons (fSlot 1) fNil)) (fC c_MOST_SIZE))) (sDrp (fMeth "PatternReader" 0 "wrong" 1 sem_PatternReader_wrong (fCons (fSlot 2) fNil))) sNil)
    (sRet (fSlot 1))
def sem_PatternReader_small : SemM := semOfM 3 "PatternReader" f_PatternReader_small
theorem ok_PatternReader_small {k : Nat} {f : Addr} {fd : FuncData} (F : Fun K "small" "PatternReader.small" s_PatternReader_small f fd) (b : Binds K fd ["self", "tree", "at"] []) {C_PatternReader : Addr} (T_PatternReader : ClsF K "PatternReader" C_PatternReader ["line", "number", "at", "deep"]) (hc_MOST_SIZE : ∃ (u : Value) (v : V), mg "MOST_SIZE" = some u ∧ RelV v u ∧ ∀ G, PD.Dp K G v c_MOST_SIZE) (K_size_of : FnD P w K mg base ex k "size_of" false 1 sem_size_of) (K_PatternReader_wrong : FnM P w K mg base ex k "PatternReader" "wrong" 1 sem_PatternReader_wrong) (M : Meth K C_PatternReader "small" f) : FnM P w K mg base ex (k + 1) "PatternReader" "small" 2 sem_PatternReader_small := by
  obtain ⟨u_MOST_SIZE, v_MOST_SIZE, hc_MOST_SIZE⟩ := hc_MOST_SIZE
  have Sc := sc_PatternReader_small
  exact fnM T_PatternReader M F Sc (by decide) (by decide) (fun cdv A outer s H E hg => have hr := hg.rm; bCons (kIf (tGt' (eCall K_size_of hg (takes_of rfl rfl rfl rfl) (aCons (eSlot 1) aNil)) (eGlob rfl hc_MOST_SIZE.1 hc_MOST_SIZE.2.1 hc_MOST_SIZE.2.2)) (bOne (kDrp (eMeth 0 K_PatternReader_wrong hg (takes_of rfl rfl rfl rfl) (fun _ _ _ _ _ h => h) (aCons (eSlot 2) aNil)))) bNil)
    (bOne (kRet (eSlot 1)))) b
abbrev s_check_book : Stmt := topS 38
theorem sc_check_book : FnScope ["book", "names", "number", "name", "is_first", "is_last", "tree"] ["book"] (defScope s_check_book) := ⟨rfl, rfl, rfl, by decide +kernel, rfl, by decide +kernel, by decide +kernel⟩
def f_check_book : FO :=
  sSeq (sSetN 1 fDic0)
    (sFor [2, 3, 4, 5, 6] (fEnum (fSlot 0)) (gTp 2 (gCo (gNm 2) (gCo (gTp 4 (gCo (gNm 3) (gCo (gNm 4) (gCo (gNm 5) (gCo (gNm 6) gNo))))) gNo))) (sSeq (sIf (fOr (tVal (fDin false 1 (fSlot 3))) (fOr (tVal (fBin dGe (fSlot 2) (fC c_MOST_RULES))) (tVal (fCall 1 sem_has_empty (fCons (fSlot 6) fNil))))) (sRaise 1 1 (fCons (fSlot 3) fNil)) sNil)
    (sSetD 1 (fC (.bool true)) (fSlot 3))))
def sem_check_book : Sem' := semOf 7 false f_check_book
theorem ok_check_book {k : Nat} {f : Addr} {fd : FuncData} (F : Fun K "check_book" "check_book" s_check_book f fd) (b : Binds K fd ["book"] []) (g : mg "check_book" = some (.ref f)) (B : Bt mg) {C_BadBook fI_BadBook : Addr} (TX_BadBook : XCls K mg "BadBook" C_BadBook fI_BadBook ["name"]) (hex_BadBook : ex 1 = some (C_BadBook, (["name"] : List Str))) (hc_MOST_RULES : ∃ (u : Value) (v : V), mg "MOST_RULES" = some u ∧ RelV v u ∧ ∀ G, PD.Dp K G v c_MOST_RULES) (K_has_empty : FnD P w K mg base ex k "has_empty" false 1 sem_has_empty) : FnD P w K mg base ex (k + 1) "check_book" false 1 sem_check_book := by
  obtain ⟨u_MOST_RULES, v_MOST_RULES, hc_MOST_RULES⟩ := hc_MOST_RULES
  have Sc := sc_check_book
  exact fnD F Sc (by decide) (by decide) (fun cdv A outer s H E hg => have hr := hg.rm; bCons (kSetN (i := 1) Sc.nd nDic0)
    (bOne (kFor (kl := [2, 3, 4, 5, 6]) (passes_of rfl) rfl (iEnum B.enumerate (eSlot 0)) (gTup rfl (gsCons (gName_ (i := 2) Sc.nd) (gsCons (gTup rfl (gsCons (gName_ (i := 3) Sc.nd) (gsCons (gName_ (i := 4) Sc.nd) (gsCons (gName_ (i := 5) Sc.nd) (gsCons (gName_ (i := 6) Sc.nd) gsNil))))) gsNil))) (bCons (kIf (PW.pt (tOrW (tDinE 1 hr (eSlot 3)) (tOrW (tGe' (eSlot 2) (eGlob rfl hc_MOST_RULES.1 hc_MOST_RULES.2.1 hc_MOST_RULES.2.2)) (tOr1 (tOf (eCall K_has_empty hg (takes_of rfl rfl rfl rfl) (aCons (eSlot 6) aNil))))))) (bOne (kRaise (n := 1) rfl (takes_of rfl rfl rfl rfl) TX_BadBook hex_BadBook rfl (by decide) (by decide) hr (aCons (eSlot 3) aNil))) bNil)
    (bOne (kSetD 1 hr eBl (eSlot 3))))))) b g
abbrev s_PatternReader_repeated : Stmt := inClass (topS 35) 10
theorem sc_PatternReader_repeated : FnScope ["self", "tree", "start", "least", "most"] ["self", "tree"] (defScope s_PatternReader_repeated) := ⟨rfl, rfl, rfl, by decide +kernel, rfl, by decide +kernel, by decide +kernel⟩
def f_PatternReader_repeated : FO :=
  sSeq (sIf (tVal (fMeth "PatternReader" 0 "took" 1 sem_PatternReader_took (fCons (fC (.str "*")) fNil))) (sRet (fCall 1 sem_again (fCons (fSlot 1) fNil))) sNil)
    (sSeq (sIf (tVal (fMeth "PatternReader" 0 "took" 1 sem_PatternReader_took (fCons (fC (.str "+")) fNil))) (sRet (fCall 2 sem_row (fCons (fSlot 1) (fCons (fCall 1 sem_again (fCons (fSlot 1) fNil)) fNil)))) sNil)
    (sSeq (sIf (tVal (fMeth "PatternReader" 0 "took" 1 sem_PatternReader_took (fCons (fC (.str "?")) fNil))) (sRet (fCall 1 sem_any_of (fCons (fFz (fLim (fCons (fTup (fCons (fC (.str "empty")) fNil)) (fCons (fSlot 1) fNil)))) fNil))) sNil)
    (sSeq (sAsg (fFld "PatternReader" 0 "at") (gNm 2))
    (sSeq (sFldA (· + ·) "PatternReader" 0 "at" (fC (.int 1)))
    (sSeq (sAsg (fMeth "PatternReader" 0 "number_told" 0 sem_PatternReader_number_told fNil) (gNm 3))
    (sSeq (sAsg (fSlot 3) (gNm 4))
    (sSeq (sIf (tVal (fMeth "PatternReader" 0 "took" 1 sem_PatternReader_took (fCons (fC (.str ",")) fNil))) (sAsg (fIf (tVal (fBin dEq (fMeth "PatternReader" 0 "sign" 0 sem_PatternReader_sign fNil) (fC (.str "}")))) (fC .none) (fMeth "PatternReader" 0 "number_told" 0 sem_PatternReader_number_told fNil)) (gNm 4)) sNil)
    (sSeq (sIf (fNot (tVal (fMeth "PatternReader" 0 "took" 1 sem_PatternReader_took (fCons (fC (.str "}")) fNil)))) (sDrp (fMeth "PatternReader" 0 "wrong" 1 sem_PatternReader_wrong (fCons (fFld "PatternReader" 0 "at") fNil))) sNil)
    (sSeq (sIf (fOr (fAnd (tVal (fBin dNotN (fSlot 4) (fC .none))) (tVal (fBin dLt (fSlot 4) (fSlot 3)))) (tVal (fBin dGt (fBin dMul (fCall 1 sem_size_of (fCons (fSlot 1) fNil)) (fB1 dMax (fFz (fLim (fCons (fC (.int 1)) (fCons (fIf (tVal (fBin dIsN (fSlot 4) (fC .none))) (fSlot 3) (fSlot 4)) fNil)))))) (fC c_MOST_SIZE)))) (sDrp (fMeth "PatternReader" 0 "wrong" 1 sem_PatternReader_wrong (fCons (fSlot 2) fNil))) sNil)
    (sRet (fCall 3 sem_times (fCons (fSlot 1) (fCons (fSlot 3) (fCons (fSlot 4) fNil))))))))))))))
def sem_PatternReader_repeated : SemM := semOfM 5 "PatternReader" f_PatternReader_repeated
theorem ok_PatternReader_repeated {k : Nat} {f : Addr} {fd : FuncData} (F : Fun K "repeated" "PatternReader.repeated" s_PatternReader_repeated f fd) (b : Binds K fd ["self", "tree"] []) {C_PatternReader : Addr} (T_PatternReader : ClsF K "PatternReader" C_PatternReader ["line", "number", "at", "deep"]) (B : Bt mg) (hc_MOST_SIZE : ∃ (u : Value) (v : V), mg "MOST_SIZE" = some u ∧ RelV v u ∧ ∀ G, PD.Dp K G v c_MOST_SIZE) (K_PatternReader_took : FnM P w K mg base ex k "PatternReader" "took" 1 sem_PatternReader_took) (K_again : FnD P w K mg base ex k "again" false 1 sem_again) (K_row : FnD P w K mg base ex k "row" false 2 sem_row) (K_any_of : FnD P w K mg base ex k "any_of" false 1 sem_any_of) (K_PatternReader_number_told : FnM P w K mg base ex k "PatternReader" "number_told" 0 sem_PatternReader_number_told) (K_PatternReader_sign : FnM P w K mg base ex k "PatternReader" "sign" 0 sem_PatternReader_sign) (K_PatternReader_wrong : FnM P w K mg base ex k "PatternReader" "wrong" 1 sem_PatternReader_wrong) (K_size_of : FnD P w K mg base ex k "size_of" false 1 sem_size_of) (K_times : FnD P w K mg base ex k "times" false 3 sem_times) (M : Meth K C_PatternReader "repeated" f) : FnM P w K mg base ex (k + 1) "PatternReader" "repeated" 1 sem_PatternReader_repeated := by
  obtain ⟨u_MOST_SIZE, v_MOST_SIZE, hc_MOST_SIZE⟩ := hc_MOST_SIZE
  have Sc := sc_PatternReader_repeated
  exact fnM T_PatternReader M F Sc (by decide) (by decide) (fun cdv A outer s H E hg => have hr := hg.rm; bCons (kIf (tOf (eMeth 0 K_PatternReader_took hg (takes_of rfl rfl rfl rfl) (fun _ _ _ _ _ h => h) (aCons eStr aNil))) (bOne (kRet (eCall K_again hg (takes_of rfl rfl rfl rfl) (aCons (eSlot 1) aNil)))) bNil)
    (bCons (kIf (tOf (eMeth 0 K_PatternReader_took hg (takes_of rfl rfl rfl rfl) (fun _ _ _ _ _ h => h) (aCons eStr aNil))) (bOne (kRet (eCall K_row hg (takes_of rfl rfl rfl rfl) (aCons (eSlot 1) (aCons (eCall K_again hg (takes_of rfl rfl rfl rfl) (aCons (eSlot 1) aNil)) aNil))))) bNil)
    (bCons (kIf (tOf (eMeth 0 K_PatternReader_took hg (takes_of rfl rfl rfl rfl) (fun _ _ _ _ _ h => h) (aCons eStr aNil))) (bOne (kRet (eCall K_any_of hg (takes_of rfl rfl rfl rfl) (aCons (eFz (oLst (aCons (eTup (aCons eStr aNil)) (aCons (eSlot 1) aNil)))) aNil)))) bNil)
    (bCons (kSet (i := 2) Sc.nd (eFld 0 T_PatternReader))
    (bCons (kFldA 0 in_add rAdd_ok T_PatternReader eInt)
    (bCons (kSet (i := 3) Sc.nd (eMeth0 0 K_PatternReader_number_told hg (takes_of rfl rfl rfl rfl) (fun _ _ _ _ _ h => h)))
    (bCons (kSet (i := 4) Sc.nd (eSlot 3))
    (bCons (kIf (tOf (eMeth 0 K_PatternReader_took hg (takes_of rfl rfl rfl rfl) (fun _ _ _ _ _ h => h) (aCons eStr aNil))) (bOne (kSet (i := 4) Sc.nd (eIfE (tEq' hr (eMeth0 0 K_PatternReader_sign hg (takes_of rfl rfl rfl rfl) (fun _ _ _ _ _ h => h)) eStr) eNon (eMeth0 0 K_PatternReader_number_told hg (takes_of rfl rfl rfl rfl) (fun _ _ _ _ _ h => h))))) bNil)
    (bCons (kIf (tNotT (tOf (eMeth 0 K_PatternReader_took hg (takes_of rfl rfl rfl rfl) (fun _ _ _ _ _ h => h) (aCons eStr aNil)))) (bOne (kDrp (eMeth 0 K_PatternReader_wrong hg (takes_of rfl rfl rfl rfl) (fun _ _ _ _ _ h => h) (aCons (eFld 0 T_PatternReader) aNil)))) bNil)
    (bCons (kIf (PW.pt (tOrW (PW.pt (tAndW (tNotN' (eSlot 4) eNon) (tAnd1 (tLt' (eSlot 4) (eSlot 3))))) (tOr1 (tGt' (eMul (eCall K_size_of hg (takes_of rfl rfl rfl rfl) (aCons (eSlot 1) aNil)) (eMaxF rfl B.max (eFz (oLst (aCons eInt (aCons (eIfE (tIsN' (eSlot 4) eNon) (eSlot 3) (eSlot 4)) aNil)))))) (eGlob rfl hc_MOST_SIZE.1 hc_MOST_SIZE.2.1 hc_MOST_SIZE.2.2))))) (bOne (kDrp (eMeth 0 K_PatternReader_wrong hg (takes_of rfl rfl rfl rfl) (fun _ _ _ _ _ h => h) (aCons (eSlot 2) aNil)))) bNil)
    (bOne (kRet (eCall K_times hg (takes_of rfl rfl rfl rfl) (aCons (eSlot 1) (aCons (eSlot 3) (aCons (eSlot 4) aNil)))))))))))))))) b
abbrev s_PatternReader_either : Stmt := inClass (topS 35) 5
theorem sc_PatternReader_either : FnScope ["self", "start", "found"] ["self"] (defScope s_PatternReader_either) := ⟨rfl, rfl, rfl, by decide +kernel, rfl, by decide +kernel, by decide +kernel⟩
def f_PatternReader_either (sem_PatternReader_both : SemM) : FO :=
  sSeq (sFldA (· + ·) "PatternReader" 0 "deep" (fC (.int 1)))
    (sSeq (sIf (tVal (fBin dGt (fFld "PatternReader" 0 "deep") (fC c_MOST_DEEP))) (sDrp (fMeth "PatternReader" 0 "wrong" 1 sem_PatternReader_wrong (fCons (fFld "PatternReader" 0 "at") fNil))) sNil)
    (sSeq (sMix [1, 2] (fIts [.inl (fFld "PatternReader" 0 "at"), .inr (fO (fLim (fCons (fMeth "PatternReader" 0 "both" 0 sem_PatternReader_both fNil) fNil)))]))
    (sSeq (sWhile wF [] (tVal (fMeth "PatternReader" 0 "took" 1 sem_PatternReader_took (fCons (fC (.str "|")) fNil))) (sApp 2 (fMeth "PatternReader" 0 "both" 0 sem_PatternReader_both fNil)))
    (sSeq (sFldA (· - ·) "PatternReader" 0 "deep" (fC (.int 1)))
    (sRet (fMeth "PatternReader" 0 "small" 2 sem_PatternReader_small (fCons (fCall 1 sem_any_of (fCons (fSlot 2) fNil)) (fCons (fSlot 1) fNil))))))))
theorem ok_PatternReader_either {k : Nat} {f : Addr} {fd : FuncData} (F : Fun K "either" "PatternReader.either" s_PatternReader_either f fd) (b : Binds K fd ["self"] []) {C_PatternReader : Addr} (T_PatternReader : ClsF K "PatternReader" C_PatternReader ["line", "number", "at", "deep"]) (hc_MOST_DEEP : ∃ (u : Value) (v : V), mg "MOST_DEEP" = some u ∧ RelV v u ∧ ∀ G, PD.Dp K G v c_MOST_DEEP) (K_PatternReader_wrong : FnM P w K mg base ex k "PatternReader" "wrong" 1 sem_PatternReader_wrong) {sem_PatternReader_both : SemM} (K_PatternReader_both : FnM P w K mg base ex k "PatternReader" "both" 0 sem_PatternReader_both) (K_PatternReader_took : FnM P w K mg base ex k "PatternReader" "took" 1 sem_PatternReader_took) (K_PatternReader_small : FnM P w K mg base ex k "PatternReader" "small" 2 sem_PatternReader_small) (K_any_of : FnD P w K mg base ex k "any_of" false 1 sem_any_of) (M : Meth K C_PatternReader "either" f) : FnM P w K mg base ex (k + 1) "PatternReader" "either" 0 (semOfM 3 "PatternReader" (f_PatternReader_either sem_PatternReader_both)) := by
  obtain ⟨u_MOST_DEEP, v_MOST_DEEP, hc_MOST_DEEP⟩ := hc_MOST_DEEP
  have Sc := sc_PatternReader_either
  exact fnM T_PatternReader M F Sc (by decide) (by decide) (fun cdv A outer s H E hg => have hr := hg.rm; bCons (kFldA 0 in_add rAdd_ok T_PatternReader eInt)
    (bCons (kIf (tGt' (eFld 0 T_PatternReader) (eGlob rfl hc_MOST_DEEP.1 hc_MOST_DEEP.2.1 hc_MOST_DEEP.2.2)) (bOne (kDrp (eMeth 0 K_PatternReader_wrong hg (takes_of rfl rfl rfl rfl) (fun _ _ _ _ _ h => h) (aCons (eFld 0 T_PatternReader) aNil)))) bNil)
    (bCons (kMix2 (i0 := 1) (i1 := 2) Sc.nd (xVal (eFld 0 T_PatternReader) (xNew (nOwn (oLst (aCons (eMeth0 0 K_PatternReader_both hg (takes_of rfl rfl rfl rfl) (fun _ _ _ _ _ h => h)) aNil))) xNil)))
    (bCons (kWhile (n := wF) (kl := []) (passes_of rfl) (tOf (eMeth 0 K_PatternReader_took hg (takes_of rfl rfl rfl rfl) (fun _ _ _ _ _ h => h) (aCons eStr aNil))) (bOne (kApp 2 (eMeth0 0 K_PatternReader_both hg (takes_of rfl rfl rfl rfl) (fun _ _ _ _ _ h => h)))))
    (bCons (kFldA 0 in_sub rSub_ok T_PatternReader eInt)
    (bOne (kRet (eMeth 0 K_PatternReader_small hg (takes_of rfl rfl rfl rfl) (fun _ _ _ _ _ h => h) (aCons (eCall K_any_of hg (takes_of rfl rfl rfl rfl) (aCons (eSlot 2) aNil)) (aCons (eSlot 1) aNil)))))))))) b
abbrev s_PatternReader_both : Stmt := inClass (topS 35) 6
theorem sc_PatternReader_both : FnScope ["self", "start", "found"] ["self"] (defScope s_PatternReader_both) := ⟨rfl, rfl, rfl, by decide +kernel, rfl, by decide +kernel, by decide +kernel⟩
def f_PatternReader_both (sem_PatternReader_pieces : SemM) : FO :=
  sSeq (sMix [1, 2] (fIts [.inl (fFld "PatternReader" 0 "at"), .inr (fO (fLim (fCons (fMeth "PatternReader" 0 "pieces" 0 sem_PatternReader_pieces fNil) fNil)))]))
    (sSeq (sWhile wF [] (tVal (fMeth "PatternReader" 0 "took" 1 sem_PatternReader_took (fCons (fC (.str "&")) fNil))) (sApp 2 (fMeth "PatternReader" 0 "pieces" 0 sem_PatternReader_pieces fNil)))
    (sRet (fMeth "PatternReader" 0 "small" 2 sem_PatternReader_small (fCons (fCall 1 sem_all_of (fCons (fSlot 2) fNil)) (fCons (fSlot 1) fNil)))))
theorem ok_PatternReader_both {k : Nat} {f : Addr} {fd : FuncData} (F : Fun K "both" "PatternReader.both" s_PatternReader_both f fd) (b : Binds K fd ["self"] []) {C_PatternReader : Addr} (T_PatternReader : ClsF K "PatternReader" C_PatternReader ["line", "number", "at", "deep"]) {sem_PatternReader_pieces : SemM} (K_PatternReader_pieces : FnM P w K mg base ex k "PatternReader" "pieces" 0 sem_PatternReader_pieces) (K_PatternReader_took : FnM P w K mg base ex k "PatternReader" "took" 1 sem_PatternReader_took) (K_PatternReader_small : FnM P w K mg base ex k "PatternReader" "small" 2 sem_PatternReader_small) (K_all_of : FnD P w K mg base ex k "all_of" false 1 sem_all_of) (M : Meth K C_PatternReader "both" f) : FnM P w K mg base ex (k + 1) "PatternReader" "both" 0 (semOfM 3 "PatternReader" (f_PatternReader_both sem_PatternReader_pieces)) := by
  have Sc := sc_PatternReader_both
  exact fnM T_PatternReader M F Sc (by decide) (by decide) (fun cdv A outer s H E hg => have hr := hg.rm; bCons (kMix2 (i0 := 1) (i1 := 2) Sc.nd (xVal (eFld 0 T_PatternReader) (xNew (nOwn (oLst (aCons (eMeth0 0 K_PatternReader_pieces hg (takes_of rfl rfl rfl rfl) (fun _ _ _ _ _ h => h)) aNil))) xNil)))
    (bCons (kWhile (n := wF) (kl := []) (passes_of rfl) (tOf (eMeth 0 K_PatternReader_took hg (takes_of rfl rfl rfl rfl) (fun _ _ _ _ _ h => h) (aCons eStr aNil))) (bOne (kApp 2 (eMeth0 0 K_PatternReader_pieces hg (takes_of rfl rfl rfl rfl) (fun _ _ _ _ _ h => h)))))
    (bOne (kRet (eMeth 0 K_PatternReader_small hg (takes_of rfl rfl rfl rfl) (fun _ _ _ _ _ h => h) (aCons (eCall K_all_of hg (takes_of rfl rfl rfl rfl) (aCons (eSlot 2) aNil)) (aCons (eSlot 1) aNil))))))) b
abbrev s_PatternReader_pieces : Stmt := inClass (topS 35) 7
theorem sc_PatternReader_pieces : FnScope ["self", "found", "start", "tree", "one"] ["self"] (defScope s_PatternReader_pieces) := ⟨rfl, rfl, rfl, by decide +kernel, rfl, by decide +kernel, by decide +kernel⟩
def f_PatternReader_pieces (sem_PatternReader_piece : SemM) : FO :=
  sSeq (sMix [1, 2] (fIts [.inr (fO (fLim (fCons (fMeth "PatternReader" 0 "piece" 0 sem_PatternReader_piece fNil) fNil))), .inl (fFld "PatternReader" 0 "at")]))
    (sSeq (sWhile wF [] (tVal (fBin dNin (fMeth "PatternReader" 0 "sign" 0 sem_PatternReader_sign fNil) (fTup (fCons (fC (.str "")) (fCons (fC (.str "|")) (fCons (fC (.str "&")) (fCons (fC (.str ")")) (fCons (fC (.str "$")) fNil)))))))) (sSeq (sAsg (fFld "PatternReader" 0 "at") (gNm 2))
    (sSeq (sApp 1 (fMeth "PatternReader" 0 "piece" 0 sem_PatternReader_piece fNil))
    (sIf (tVal (fBin dGt (fBin dSub (fBin dAddX (fLent (fB1 dSum (fFz (fComp [4] (fItX (fSlot 1)) (gNm 4) fYes (fCall 1 sem_size_of (fCons (fSlot 4) fNil)))))) (fLenS 1)) (fC (.int 1))) (fC c_MOST_SIZE))) (sDrp (fMeth "PatternReader" 0 "wrong" 1 sem_PatternReader_wrong (fCons (fSlot 2) fNil))) sNil))))
    (sSeq (sAsg (fIxS 1 (fNeg (fC (.int 1)))) (gNm 3))
    (sSeq (sFor [4] (fItX (fFz (fRev2 (fSlot 1)))) (gNm 4) (sAsg (fCall 2 sem_row (fCons (fSlot 4) (fCons (fSlot 3) fNil))) (gNm 3)))
    (sRet (fSlot 3)))))
theorem ok_PatternReader_pieces {k : Nat} {f : Addr} {fd : FuncData} (F : Fun K "pieces" "PatternReader.pieces" s_PatternReader_pieces f fd) (b : Binds K fd ["self"] []) {C_PatternReader : Addr} (T_PatternReader : ClsF K "PatternReader" C_PatternReader ["line", "number", "at", "deep"]) (B : Bt mg) (hc_MOST_SIZE : ∃ (u : Value) (v : V), mg "MOST_SIZE" = some u ∧ RelV v u ∧ ∀ G, PD.Dp K G v c_MOST_SIZE) {sem_PatternReader_piece : SemM} (K_PatternReader_piece : FnM P w K mg base ex k "PatternReader" "piece" 0 sem_PatternReader_piece) (K_PatternReader_sign : FnM P w K mg base ex k "PatternReader" "sign" 0 sem_PatternReader_sign) (K_size_of : FnD P w K mg base ex k "size_of" false 1 sem_size_of) (K_PatternReader_wrong : FnM P w K mg base ex k "PatternReader" "wrong" 1 sem_PatternReader_wrong) (K_row : FnD P w K mg base ex k "row" false 2 sem_row) (M : Meth K C_PatternReader "pieces" f) : FnM P w K mg base ex (k + 1) "PatternReader" "pieces" 0 (semOfM 5 "PatternReader" (f_PatternReader_pieces sem_PatternReader_piece)) := by
  obtain ⟨u_MOST_SIZE, v_MOST_SIZE, hc_MOST_SIZE⟩ := hc_MOST_SIZE
  have Sc := sc_PatternReader_pieces
  exact fnM T_PatternReader M F Sc (by decide) (by decide) (fun cdv A outer s H E hg => have hr := hg.rm; bCons (kMix2 (i0 := 1) (i1 := 2) Sc.nd (xNew (nOwn (oLst (aCons (eMeth0 0 K_PatternReader_piece hg (takes_of rfl rfl rfl rfl) (fun _ _ _ _ _ h => h)) aNil))) (xVal (eFld 0 T_PatternReader) xNil)))
    (bCons (kWhile (n := wF) (kl := []) (passes_of rfl) (tNin' hr (eMeth0 0 K_PatternReader_sign hg (takes_of rfl rfl rfl rfl) (fun _ _ _ _ _ h => h)) (eTup (aCons eStr (aCons eStr (aCons eStr (aCons eStr (aCons eStr aNil))))))) (bCons (kSet (i := 2) Sc.nd (eFld 0 T_PatternReader))
    (bCons (kApp 1 (eMeth0 0 K_PatternReader_piece hg (takes_of rfl rfl rfl rfl) (fun _ _ _ _ _ h => h)))
    (bOne (kIf (tGt' (eSub (eAddX (eLent (eSumF rfl B.sum (eFz (oComp (own := [("one", 4)]) rfl Sc.nd (iItX (eSlot 1)) (blkOk_by (by kernel_rfl)) (fun _ _ _ _ _ => gName_ (i := 4) Sc.nd) (fun _ _ _ _ _ => tsNil) (fun _ _ _ _ _ => eCall K_size_of hg takes0 (aCons (eSlot 4) aNil)))))) (eLenS 1 B.len)) eInt) (eGlob rfl hc_MOST_SIZE.1 hc_MOST_SIZE.2.1 hc_MOST_SIZE.2.2)) (bOne (kDrp (eMeth 0 K_PatternReader_wrong hg (takes_of rfl rfl rfl rfl) (fun _ _ _ _ _ h => h) (aCons (eSlot 2) aNil)))) bNil)))))
    (bCons (kSet (i := 3) Sc.nd (eIxS 1 (eNeg eInt)))
    (bCons (kFor (kl := [4]) (passes_of rfl) rfl (iItX (eFz (oRev2 (eSlot 1)))) (gName_ (i := 4) Sc.nd) (bOne (kSet (i := 3) Sc.nd (eCall K_row hg (takes_of rfl rfl rfl rfl) (aCons (eSlot 4) (aCons (eSlot 3) aNil))))))
    (bOne (kRet (eSlot 3))))))) b
abbrev s_PatternReader_piece : Stmt := inClass (topS 35) 8
theorem sc_PatternReader_piece : FnScope ["self", "found", "start"] ["self"] (defScope s_PatternReader_piece) := ⟨rfl, rfl, rfl, by decide +kernel, rfl, by decide +kernel, by decide +kernel⟩
def f_PatternReader_piece (sem_PatternReader_piece : SemM) (sem_PatternReader_atom : SemM) : FO :=
  sSeq (sIf (tVal (fMeth "PatternReader" 0 "took" 1 sem_PatternReader_took (fCons (fC (.str "!")) fNil))) (sSeq (sFldA (· + ·) "PatternReader" 0 "deep" (fC (.int 1)))
    (sSeq (sIf (tVal (fBin dGt (fFld "PatternReader" 0 "deep") (fC c_MOST_DEEP))) (sDrp (fMeth "PatternReader" 0 "wrong" 1 sem_PatternReader_wrong (fCons (fFld "PatternReader" 0 "at") fNil))) sNil)
    (sSeq (sAsg (fCall 1 sem_but (fCons (fMeth "PatternReader" 0 "piece" 0 sem_PatternReader_piece fNil) fNil)) (gNm 1))
    (sSeq (sFldA (· - ·) "PatternReader" 0 "deep" (fC (.int 1)))
    (sRet (fSlot 1)))))) sNil)
    (sSeq (sAsg (fMeth "PatternReader" 0 "atom" 0 sem_PatternReader_atom fNil) (gNm 1))
    (sSeq (sWhile wF [2] (tVal (fBin dIn (fMeth "PatternReader" 0 "sign" 0 sem_PatternReader_sign fNil) (fTup (fCons (fC (.str "*")) (fCons (fC (.str "+")) (fCons (fC (.str "?")) (fCons (fC (.str "{")) fNil))))))) (sSeq (sAsg (fFld "PatternReader" 0 "at") (gNm 2))
    (sAsg (fMeth "PatternReader" 0 "small" 2 sem_PatternReader_small (fCons (fMeth "PatternReader" 0 "repeated" 1 sem_PatternReader_repeated (fCons (fSlot 1) fNil)) (fCons (fSlot 2) fNil))) (gNm 1))))
    (sRet (fSlot 1))))
theorem ok_PatternReader_piece {k : Nat} {f : Addr} {fd : FuncData} (F : Fun K "piece" "PatternReader.piece" s_PatternReader_piece f fd) (b : Binds K fd ["self"] []) {C_PatternReader : Addr} (T_PatternReader : ClsF K "PatternReader" C_PatternReader ["line", "number", "at", "deep"]) (hc_MOST_DEEP : ∃ (u : Value) (v : V), mg "MOST_DEEP" = some u ∧ RelV v u ∧ ∀ G, PD.Dp K G v c_MOST_DEEP) (K_PatternReader_took : FnM P w K mg base ex k "PatternReader" "took" 1 sem_PatternReader_took) (K_PatternReader_wrong : FnM P w K mg base ex k "PatternReader" "wrong" 1 sem_PatternReader_wrong) (K_but : FnD P w K mg base ex k "but" false 1 sem_but) {sem_PatternReader_piece : SemM} (K_PatternReader_piece : FnM P w K mg base ex k "PatternReader" "piece" 0 sem_PatternReader_piece) {sem_PatternReader_atom : SemM} (K_PatternReader_atom : FnM P w K mg base ex k "PatternReader" "atom" 0 sem_PatternReader_atom) (K_PatternReader_sign : FnM P w K mg base ex k "PatternReader" "sign" 0 sem_PatternReader_sign) (K_PatternReader_small : FnM P w K mg base ex k "PatternReader" "small" 2 sem_PatternReader_small) (K_PatternReader_repeated : FnM P w K mg base ex k "PatternReader" "repeated" 1 sem_PatternReader_repeated) (M : Meth K C_PatternReader "piece" f) : FnM P w K mg base ex (k + 1) "PatternReader" "piece" 0 (semOfM 3 "PatternReader" (f_PatternReader_piece sem_PatternReader_piece sem_PatternReader_atom)) := by
  obtain ⟨u_MOST_DEEP, v_MOST_DEEP, hc_MOST_DEEP⟩ := hc_MOST_DEEP
  have Sc := sc_PatternReader_piece
  exact fnM T_PatternReader M F Sc (by decide) (by decide) (fun cdv A outer s H E hg => have hr := hg.rm; bCons (kIf (tOf (eMeth 0 K_PatternReader_took hg (takes_of rfl rfl rfl rfl) (fun _ _ _ _ _ h => h) (aCons eStr aNil))) (bCons (kFldA 0 in_add rAdd_ok T_PatternReader eInt)
    (bCons (kIf (tGt' (eFld 0 T_PatternReader) (eGlob rfl hc_MOST_DEEP.1 hc_MOST_DEEP.2.1 hc_MOST_DEEP.2.2)) (bOne (kDrp (eMeth 0 K_PatternReader_wrong hg (takes_of rfl rfl rfl rfl) (fun _ _ _ _ _ h => h) (aCons (eFld 0 T_PatternReader) aNil)))) bNil)
    (bCons (kSet (i := 1) Sc.nd (eCall K_but hg (takes_of rfl rfl rfl rfl) (aCons (eMeth0 0 K_PatternReader_piece hg (takes_of rfl rfl rfl rfl) (fun _ _ _ _ _ h => h)) aNil)))
    (bCons (kFldA 0 in_sub rSub_ok T_PatternReader eInt)
    (bOne (kRet (eSlot 1))))))) bNil)
    (bCons (kSet (i := 1) Sc.nd (eMeth0 0 K_PatternReader_atom hg (takes_of rfl rfl rfl rfl) (fun _ _ _ _ _ h => h)))
    (bCons (kWhile (n := wF) (kl := [2]) (passes_of rfl) (tIn' hr (eMeth0 0 K_PatternReader_sign hg (takes_of rfl rfl rfl rfl) (fun _ _ _ _ _ h => h)) (eTup (aCons eStr (aCons eStr (aCons eStr (aCons eStr aNil)))))) (bCons (kSet (i := 2) Sc.nd (eFld 0 T_PatternReader))
    (bOne (kSet (i := 1) Sc.nd (eMeth 0 K_PatternReader_small hg (takes_of rfl rfl rfl rfl) (fun _ _ _ _ _ h => h) (aCons (eMeth 0 K_PatternReader_repeated hg (takes_of rfl rfl rfl rfl) (fun _ _ _ _ _ h => h) (aCons (eSlot 1) aNil)) (aCons (eSlot 2) aNil)))))))
    (bOne (kRet (eSlot 1)))))) b
abbrev s_PatternReader_atom : Stmt := inClass (topS 35) 12
theorem sc_PatternReader_atom : FnScope ["self", "sign", "found"] ["self"] (defScope s_PatternReader_atom) := ⟨rfl, rfl, rfl, by decide +kernel, rfl, by decide +kernel, by decide +kernel⟩
def f_PatternReader_atom (sem_PatternReader_either : SemM) : FO :=
  sSeq (sAsg (fMeth "PatternReader" 0 "sign" 0 sem_PatternReader_sign fNil) (gNm 1))
    (sSeq (sIf (tVal (fMeth "PatternReader" 0 "took" 1 sem_PatternReader_took (fCons (fC (.str "(")) fNil))) (sSeq (sAsg (fMeth "PatternReader" 0 "either" 0 sem_PatternReader_either fNil) (gNm 2))
    (sSeq (sIf (fNot (tVal (fMeth "PatternReader" 0 "took" 1 sem_PatternReader_took (fCons (fC (.str ")")) fNil)))) (sDrp (fMeth "PatternReader" 0 "wrong" 1 sem_PatternReader_wrong (fCons (fFld "PatternReader" 0 "at") fNil))) sNil)
    (sRet (fSlot 2)))) sNil)
    (sSeq (sIf (tVal (fMeth "PatternReader" 0 "took" 1 sem_PatternReader_took (fCons (fC (.str ".")) fNil))) (sRet (fCall 1 sem_some (fCons (fC c_ALL) fNil))) sNil)
    (sSeq (sIf (tVal (fMeth "PatternReader" 0 "took" 1 sem_PatternReader_took (fCons (fC (.str "[")) fNil))) (sRet (fCall 1 sem_some (fCons (fMeth "PatternReader" 0 "some_told" 0 sem_PatternReader_some_told fNil) fNil))) sNil)
    (sSeq (sIf (fOr (tVal (fCmpS dEq 1 (fC (.str "")))) (fAnd (tVal (fBin dIn (fSlot 1) (fC c_SPECIALS))) (tVal (fCmpS dNe 1 (fC (.str "\\")))))) (sDrp (fMeth "PatternReader" 0 "wrong" 1 sem_PatternReader_wrong (fCons (fFld "PatternReader" 0 "at") fNil))) sNil)
    (sRet (fCall 1 sem_some (fCons (fCall 1 sem_set_of (fCons (fFz (fLim (fCons (fMeth "PatternReader" 0 "byte_told" 1 sem_PatternReader_byte_told (fCons (fC c_SPECIALS) fNil)) fNil))) fNil)) fNil)))))))
theorem ok_PatternReader_atom {k : Nat} {f : Addr} {fd : FuncData} (F : Fun K "atom" "PatternReader.atom" s_PatternReader_atom f fd) (b : Binds K fd ["self"] []) {C_PatternReader : Addr} (T_PatternReader : ClsF K "PatternReader" C_PatternReader ["line", "number", "at", "deep"]) (hc_ALL : ∃ (u : Value) (v : V), mg "ALL" = some u ∧ RelV v u ∧ ∀ G, PD.Dp K G v c_ALL) (hc_SPECIALS : ∃ (u : Value) (v : V), mg "SPECIALS" = some u ∧ RelV v u ∧ ∀ G, PD.Dp K G v c_SPECIALS) (K_PatternReader_sign : FnM P w K mg base ex k "PatternReader" "sign" 0 sem_PatternReader_sign) (K_PatternReader_took : FnM P w K mg base ex k "PatternReader" "took" 1 sem_PatternReader_took) {sem_PatternReader_either : SemM} (K_PatternReader_either : FnM P w K mg base ex k "PatternReader" "either" 0 sem_PatternReader_either) (K_PatternReader_wrong : FnM P w K mg base ex k "PatternReader" "wrong" 1 sem_PatternReader_wrong) (K_some : FnD P w K mg base ex k "some" false 1 sem_some) (K_PatternReader_some_told : FnM P w K mg base ex k "PatternReader" "some_told" 0 sem_PatternReader_some_told) (K_set_of : FnD P w K mg base ex k "set_of" false 1 sem_set_of) (K_PatternReader_byte_told : FnM P w K mg base ex k "PatternReader" "byte_told" 1 sem_PatternReader_byte_told) (M : Meth K C_PatternReader "atom" f) : FnM P w K mg base ex (k + 1) "PatternReader" "atom" 0 (semOfM 3 "PatternReader" (f_PatternReader_atom sem_PatternReader_either)) := by
  obtain ⟨u_ALL, v_ALL, hc_ALL⟩ := hc_ALL
  obtain ⟨u_SPECIALS, v_SPECIALS, hc_SPECIALS⟩ := hc_SPECIALS
  have Sc := sc_PatternReader_atom
  exact fnM T_PatternReader M F Sc (by decide) (by decide) (fun cdv A outer s H E hg => have hr := hg.rm; bCons (kSet (i := 1) Sc.nd (eMeth0 0 K_PatternReader_sign hg (takes_of rfl rfl rfl rfl) (fun _ _ _ _ _ h => h)))
    (bCons (kIf (tOf (eMeth 0 K_PatternReader_took hg (takes_of rfl rfl rfl rfl) (fun _ _ _ _ _ h => h) (aCons eStr aNil))) (bCons (kSet (i := 2) Sc.nd (eMeth0 0 K_PatternReader_either hg (takes_of rfl rfl rfl rfl) (fun _ _ _ _ _ h => h)))
    (bCons (kIf (tNotT (tOf (eMeth 0 K_PatternReader_took hg (takes_of rfl rfl rfl rfl) (fun _ _ _ _ _ h => h) (aCons eStr aNil)))) (bOne (kDrp (eMeth 0 K_PatternReader_wrong hg (takes_of rfl rfl rfl rfl) (fun _ _ _ _ _ h => h) (aCons (eFld 0 T_PatternReader) aNil)))) bNil)
    (bOne (kRet (eSlot 2))))) bNil)
    (bCons (kIf (tOf (eMeth 0 K_PatternReader_took hg (takes_of rfl rfl rfl rfl) (fun _ _ _ _ _ h => h) (aCons eStr aNil))) (bOne (kRet (eCall K_some hg (takes_of rfl rfl rfl rfl) (aCons (eGlob rfl hc_ALL.1 hc_ALL.2.1 hc_ALL.2.2) aNil)))) bNil)
    (bCons (kIf (tOf (eMeth 0 K_PatternReader_took hg (takes_of rfl rfl rfl rfl) (fun _ _ _ _ _ h => h) (aCons eStr aNil))) (bOne (kRet (eCall K_some hg (takes_of rfl rfl rfl rfl) (aCons (eMeth0 0 K_PatternReader_some_told hg (takes_of rfl rfl rfl rfl) (fun _ _ _ _ _ h => h)) aNil)))) bNil)
    (bCons (kIf (PW.pt (tOrW (tEqS 1 hr eStr) (tOr1 (PW.pt (tAndW (tIn' hr (eSlot 1) (eGlob rfl hc_SPECIALS.1 hc_SPECIALS.2.1 hc_SPECIALS.2.2)) (tAnd1 (tNeS 1 hr eStr))))))) (bOne (kDrp (eMeth 0 K_PatternReader_wrong hg (takes_of rfl rfl rfl rfl) (fun _ _ _ _ _ h => h) (aCons (eFld 0 T_PatternReader) aNil)))) bNil)
    (bOne (kRet (eCall K_some hg (takes_of rfl rfl rfl rfl) (aCons (eCall K_set_of hg (takes_of rfl rfl rfl rfl) (aCons (eFz (oLst (aCons (eMeth 0 K_PatternReader_byte_told hg (takes_of rfl rfl rfl rfl) (fun _ _ _ _ _ h => h) (aCons (eGlob rfl hc_SPECIALS.1 hc_SPECIALS.2.1 hc_SPECIALS.2.2) aNil)) aNil))) aNil)) aNil))))))))) b
def grpAt (e : SemM) : SemM := semOfM 3 "PatternReader" (f_PatternReader_atom e)
def grpPc (e p : SemM) : SemM := semOfM 3 "PatternReader" (f_PatternReader_piece p (grpAt e))
def grpEi (e p : SemM) : SemM := semOfM 3 "PatternReader" (f_PatternReader_either (semOfM 3 "PatternReader" (f_PatternReader_both (semOfM 5 "PatternReader" (f_PatternReader_pieces (grpPc e p))))))
def sem_grp : Nat → SemM × SemM
  | 0 => (fun _ _ _ => .bad, fun _ _ _ => .bad)
  | n + 1 => (grpEi (sem_grp n).1 (sem_grp n).2, grpPc (sem_grp n).1 (sem_grp n).2)
def sem_PatternReader_either : SemM := (sem_grp 8).1
theorem ok_grp {k : Nat} {C_PatternReader : Addr} {f_either : Addr} {fd_either : FuncData} (F_either : Fun K "either" "PatternReader.either" s_PatternReader_either f_either fd_either) (b_either : Binds K fd_either ["self"] []) (M_either : Meth K C_PatternReader "either" f_either) {f_both : Addr} {fd_both : FuncData} (F_both : Fun K "both" "PatternReader.both" s_PatternReader_both f_both fd_both) (b_both : Binds K fd_both ["self"] []) (M_both : Meth K C_PatternReader "both" f_both) {f_pieces : Addr} {fd_pieces : FuncData} (F_pieces : Fun K "pieces" "PatternReader.pieces" s_PatternReader_pieces f_pieces fd_pieces) (b_pieces : Binds K fd_pieces ["self"] []) (M_pieces : Meth K C_PatternReader "pieces" f_pieces) {f_piece : Addr} {fd_piece : FuncData} (F_piece : Fun K "piece" "PatternReader.piece" s_PatternReader_piece f_piece fd_piece) (b_piece : Binds K fd_piece ["self"] []) (M_piece : Meth K C_PatternReader "piece" f_piece) {f_atom : Addr} {fd_atom : FuncData} (F_atom : Fun K "atom" "PatternReader.atom" s_PatternReader_atom f_atom fd_atom) (b_atom : Binds K fd_atom ["self"] []) (M_atom : Meth K C_PatternReader "atom" f_atom) (T_PatternReader : ClsF K "PatternReader" C_PatternReader ["line", "number", "at", "deep"]) (hc_MOST_DEEP : ∃ (u : Value) (v : V), mg "MOST_DEEP" = some u ∧ RelV v u ∧ ∀ G, PD.Dp K G v c_MOST_DEEP) (K_PatternReader_wrong : FnM P w K mg base ex k "PatternReader" "wrong" 1 sem_PatternReader_wrong) (K_PatternReader_took : FnM P w K mg base ex k "PatternReader" "took" 1 sem_PatternReader_took) (K_PatternReader_small : FnM P w K mg base ex k "PatternReader" "small" 2 sem_PatternReader_small) (K_any_of : FnD P w K mg base ex k "any_of" false 1 sem_any_of) (K_all_of : FnD P w K mg base ex k "all_of" false 1 sem_all_of) (B : Bt mg) (hc_MOST_SIZE : ∃ (u : Value) (v : V), mg "MOST_SIZE" = some u ∧ RelV v u ∧ ∀ G, PD.Dp K G v c_MOST_SIZE) (K_PatternReader_sign : FnM P w K mg base ex k "PatternReader" "sign" 0 sem_PatternReader_sign) (K_size_of : FnD P w K mg base ex k "size_of" false 1 sem_size_of) (K_row : FnD P w K mg base ex k "row" false 2 sem_row) (K_but : FnD P w K mg base ex k "but" false 1 sem_but) (K_PatternReader_repeated : FnM P w K mg base ex k "PatternReader" "repeated" 1 sem_PatternReader_repeated) (hc_ALL : ∃ (u : Value) (v : V), mg "ALL" = some u ∧ RelV v u ∧ ∀ G, PD.Dp K G v c_ALL) (hc_SPECIALS : ∃ (u : Value) (v : V), mg "SPECIALS" = some u ∧ RelV v u ∧ ∀ G, PD.Dp K G v c_SPECIALS) (K_some : FnD P w K mg base ex k "some" false 1 sem_some) (K_PatternReader_some_told : FnM P w K mg base ex k "PatternReader" "some_told" 0 sem_PatternReader_some_told) (K_set_of : FnD P w K mg base ex k "set_of" false 1 sem_set_of) (K_PatternReader_byte_told : FnM P w K mg base ex k "PatternReader" "byte_told" 1 sem_PatternReader_byte_told) (n : Nat) : FnM P w K mg base ex (k + 5 * n) "PatternReader" "either" 0 (sem_grp n).1 ∧ FnM P w K mg base ex (k + 5 * n) "PatternReader" "piece" 0 (sem_grp n).2 := by
  induction n with
  | zero => exact ⟨fnM_bad T_PatternReader M_either F_either b_either rfl, fnM_bad T_PatternReader M_piece F_piece b_piece rfl⟩
  | succ n ih =>
    have hat := ok_PatternReader_atom (k := k + 5 * n) F_atom b_atom T_PatternReader hc_ALL hc_SPECIALS (K_PatternReader_sign.mono (by omega)) (K_PatternReader_took.mono (by omega)) ih.1 (K_PatternReader_wrong.mono (by omega)) (K_some.mono (by omega)) (K_PatternReader_some_told.mono (by omega)) (K_set_of.mono (by omega)) (K_PatternReader_byte_told.mono (by omega)) M_atom
    have hpc := ok_PatternReader_piece (k := k + 5 * n + 1) F_piece b_piece T_PatternReader hc_MOST_DEEP (K_PatternReader_took.mono (by omega)) (K_PatternReader_wrong.mono (by omega)) (K_but.mono (by omega)) (ih.2.mono (by omega)) hat (K_PatternReader_sign.mono (by omega)) (K_PatternReader_small.mono (by omega)) (K_PatternReader_repeated.mono (by omega)) M_piece
    have hps := ok_PatternReader_pieces (k := k + 5 * n + 2) F_pieces b_pieces T_PatternReader B hc_MOST_SIZE hpc (K_PatternReader_sign.mono (by omega)) (K_size_of.mono (by omega)) (K_PatternReader_wrong.mono (by omega)) (K_row.mono (by omega)) M_pieces
    have hbo := ok_PatternReader_both (k := k + 5 * n + 3) F_both b_both T_PatternReader hps (K_PatternReader_took.mono (by omega)) (K_PatternReader_small.mono (by omega)) (K_all_of.mono (by omega)) M_both
    have hei := ok_PatternReader_either (k := k + 5 * n + 4) F_either b_either T_PatternReader hc_MOST_DEEP (K_PatternReader_wrong.mono (by omega)) hbo (K_PatternReader_took.mono (by omega)) (K_PatternReader_small.mono (by omega)) (K_any_of.mono (by omega)) M_either
    exact ⟨FnM.mono hei (by omega), FnM.mono hpc (by omega)⟩
abbrev s_read_rule : Stmt := topS 37
theorem sc_read_rule : FnScope ["line", "number", "reader", "start", "name", "is_first", "tree", "is_last"] ["line", "number"] (defScope s_read_rule) := ⟨rfl, rfl, rfl, by decide +kernel, rfl, by decide +kernel, by decide +kernel⟩
def f_read_rule : FO :=
  sSeq (sSetN 2 (fNew "PatternReader" 3 sem_PatternReader___init__ (fCons (fSlot 0) (fCons (fSlot 1) (fCons (fC (.int 0)) fNil)))))
    (sSeq (sDrp (fMeth "PatternReader" 2 "skip" 0 sem_PatternReader_skip fNil))
    (sSeq (sAsg (fFld "PatternReader" 2 "at") (gNm 3))
    (sSeq (sFldO "PatternReader" 2 "at" (fCall 3 sem_name_end (fCons (fSlot 0) (fCons (fSlot 1) (fCons (fSlot 3) fNil)))))
    (sSeq (sAsg (fCutX (fSlot 0) (fPt (fSlot 3)) (fPt (fFld "PatternReader" 2 "at"))) (gNm 4))
    (sSeq (sIf (fNot (tVal (fMeth "PatternReader" 2 "took" 1 sem_PatternReader_took (fCons (fC (.str ":")) fNil)))) (sDrp (fMeth "PatternReader" 2 "wrong" 1 sem_PatternReader_wrong (fCons (fFld "PatternReader" 2 "at") fNil))) sNil)
    (sSeq (sAsg (fMeth "PatternReader" 2 "took" 1 sem_PatternReader_took (fCons (fC (.str "^")) fNil)) (gNm 5))
    (sSeq (sAsg (fMeth "PatternReader" 2 "either" 0 sem_PatternReader_either fNil) (gNm 6))
    (sSeq (sAsg (fMeth "PatternReader" 2 "took" 1 sem_PatternReader_took (fCons (fC (.str "$")) fNil)) (gNm 7))
    (sSeq (sIf (tVal (fBin dNe (fMeth "PatternReader" 2 "sign" 0 sem_PatternReader_sign fNil) (fC (.str "")))) (sDrp (fMeth "PatternReader" 2 "wrong" 1 sem_PatternReader_wrong (fCons (fFld "PatternReader" 2 "at") fNil))) sNil)
    (sRet (fTup (fCons (fSlot 4) (fCons (fSlot 5) (fCons (fSlot 7) (fCons (fSlot 6) fNil)))))))))))))))
def sem_read_rule : Sem' := semOf 8 false f_read_rule
theorem ok_read_rule {k : Nat} {f : Addr} {fd : FuncData} (F : Fun K "read_rule" "read_rule" s_read_rule f fd) (b : Binds K fd ["line", "number"] []) (g : mg "read_rule" = some (.ref f)) {C_PatternReader : Addr} (T_PatternReader : ClsF K "PatternReader" C_PatternReader ["line", "number", "at", "deep"]) (K_PatternReader___init__ : FnI P w K mg base ex k "PatternReader" 3 sem_PatternReader___init__) (K_PatternReader_skip : FnM P w K mg base ex (k + 1) "PatternReader" "skip" 0 sem_PatternReader_skip) (K_name_end : FnD P w K mg base ex (k + 1) "name_end" false 3 sem_name_end) (K_PatternReader_took : FnM P w K mg base ex (k + 1) "PatternReader" "took" 1 sem_PatternReader_took) (K_PatternReader_wrong : FnM P w K mg base ex (k + 1) "PatternReader" "wrong" 1 sem_PatternReader_wrong) (K_PatternReader_either : FnM P w K mg base ex (k + 1) "PatternReader" "either" 0 sem_PatternReader_either) (K_PatternReader_sign : FnM P w K mg base ex (k + 1) "PatternReader" "sign" 0 sem_PatternReader_sign) : FnD P w K mg base ex ((k + 1) + 1) "read_rule" false 2 sem_read_rule := by
  have Sc := sc_read_rule
  exact fnD F Sc (by decide) (by decide) (fun cdv A outer s H E hg => have hr := hg.rm; bCons (kSetN (i := 2) Sc.nd (nNew K_PatternReader___init__ hr (takes_of rfl rfl rfl rfl) (fun _ _ _ _ _ h => h) (aCons (eSlot 0) (aCons (eSlot 1) (aCons eInt aNil)))))
    (bCons (kDrp (eMeth0 2 K_PatternReader_skip hg (takes_of rfl rfl rfl rfl) (fun _ _ _ _ _ h => h)))
    (bCons (kSet (i := 3) Sc.nd (eFld 2 T_PatternReader))
    (bCons (kFld 2 T_PatternReader (eCall K_name_end hg (takes_of rfl rfl rfl rfl) (aCons (eSlot 0) (aCons (eSlot 1) (aCons (eSlot 3) aNil)))))
    (bCons (kSet (i := 4) Sc.nd (eCutX (eSlot 0) (pSome (eSlot 3)) (pSome (eFld 2 T_PatternReader))))
    (bCons (kIf (tNotT (tOf (eMeth 2 K_PatternReader_took hg (takes_of rfl rfl rfl rfl) (fun _ _ _ _ _ h => h) (aCons eStr aNil)))) (bOne (kDrp (eMeth 2 K_PatternReader_wrong hg (takes_of rfl rfl rfl rfl) (fun _ _ _ _ _ h => h) (aCons (eFld 2 T_PatternReader) aNil)))) bNil)
    (bCons (kSet (i := 5) Sc.nd (eMeth 2 K_PatternReader_took hg (takes_of rfl rfl rfl rfl) (fun _ _ _ _ _ h => h) (aCons eStr aNil)))
    (bCons (kSet (i := 6) Sc.nd (eMeth0 2 K_PatternReader_either hg (takes_of rfl rfl rfl rfl) (fun _ _ _ _ _ h => h)))
    (bCons (kSet (i := 7) Sc.nd (eMeth 2 K_PatternReader_took hg (takes_of rfl rfl rfl rfl) (fun _ _ _ _ _ h => h) (aCons eStr aNil)))
    (bCons (kIf (tNe' hr (eMeth0 2 K_PatternReader_sign hg (takes_of rfl rfl rfl rfl) (fun _ _ _ _ _ h => h)) eStr) (bOne (kDrp (eMeth 2 K_PatternReader_wrong hg (takes_of rfl rfl rfl rfl) (fun _ _ _ _ _ h => h) (aCons (eFld 2 T_PatternReader) aNil)))) bNil)
    (bOne (kRet (eTup (aCons (eSlot 4) (aCons (eSlot 5) (aCons (eSlot 7) (aCons (eSlot 6) aNil))))))))))))))))) b g
abbrev s_read_book : Stmt := topS 39
theorem sc_read_book : FnScope ["text", "found", "number", "line"] ["text"] (defScope s_read_book) := ⟨rfl, rfl, rfl, by decide +kernel, rfl, by decide +kernel, by decide +kernel⟩
def f_read_book : FO :=
  sSeq (sIf (fNot (tVal (fB1 (dIsi "str") (fSlot 0)))) (sRaise 0 2 (fCons (fC (.int 0)) (fCons (fC (.int 0)) fNil))) sNil)
    (sSeq (sSetO 1 (fLim fNil))
    (sSeq (sFor [2, 3] (fEnumK (fFz (fSplit (fSlot 0) (fC (.str "\n")))) (fC (.int 1))) (gTp 2 (gCo (gNm 2) (gCo (gNm 3) gNo))) (sIf (tVal (fBin dNe (fNewM "PatternReader" "sign" sem_PatternReader_sign (fNew "PatternReader" 3 sem_PatternReader___init__ (fCons (fSlot 3) (fCons (fSlot 2) (fCons (fC (.int 0)) fNil))))) (fC (.str "")))) (sApp 1 (fCall 2 sem_read_rule (fCons (fSlot 3) (fCons (fSlot 2) fNil)))) sNil))
    (sSeq (sDrp (fCall 1 sem_check_book (fCons (fSlot 1) fNil)))
    (sRet (fB1 dTup (fSlot 1))))))
def sem_read_book : Sem' := semOf 4 false f_read_book
theorem ok_read_book {k : Nat} {f : Addr} {fd : FuncData} (F : Fun K "read_book" "read_book" s_read_book f fd) (b : Binds K fd ["text"] []) (g : mg "read_book" = some (.ref f)) (B : Bt mg) {C_BadText fI_BadText : Addr} (TX_BadText : XCls K mg "BadText" C_BadText fI_BadText ["line", "column"]) (hex_BadText : ex 0 = some (C_BadText, (["line", "column"] : List Str))) (K_PatternReader_sign : FnM P w K mg base ex (k + 1) "PatternReader" "sign" 0 sem_PatternReader_sign) (K_PatternReader___init__ : FnI P w K mg base ex k "PatternReader" 3 sem_PatternReader___init__) (K_read_rule : FnD P w K mg base ex (k + 1) "read_rule" false 2 sem_read_rule) (K_check_book : FnD P w K mg base ex (k + 1) "check_book" false 1 sem_check_book) : FnD P w K mg base ex ((k + 1) + 1) "read_book" false 1 sem_read_book := by
  have Sc := sc_read_book
  exact fnD F Sc (by decide) (by decide) (fun cdv A outer s H E hg => have hr := hg.rm; bCons (kIf (tNotT (tOf (eIsi (T := "str") (.inr (.inr rfl)) B.isinstance B.str PyProof.Rows.boot_str (eSlot 0)))) (bOne (kRaise (n := 2) rfl (takes_of rfl rfl rfl rfl) TX_BadText hex_BadText rfl (by decide) (by decide) hr (aCons eInt (aCons eInt aNil)))) bNil)
    (bCons (kSetO (i := 1) Sc.nd (oLst aNil))
    (bCons (kFor (kl := [2, 3]) (passes_of rfl) rfl (iEnumK B.enumerate (eFz (oSplit (eSlot 0) eStr)) eInt) (gTup rfl (gsCons (gName_ (i := 2) Sc.nd) (gsCons (gName_ (i := 3) Sc.nd) gsNil))) (bOne (kIf (tNe' hr (eNewM0 K_PatternReader_sign hg (takes_of rfl rfl rfl rfl) (fun _ _ _ _ _ h => h) (nNew K_PatternReader___init__ hr (takes_of rfl rfl rfl rfl) (fun _ _ _ _ _ h => h) (aCons (eSlot 3) (aCons (eSlot 2) (aCons eInt aNil))))) eStr) (bOne (kApp 1 (eCall K_read_rule hg (takes_of rfl rfl rfl rfl) (aCons (eSlot 3) (aCons (eSlot 2) aNil))))) bNil)))
    (bCons (kDrp (eCall K_check_book hg (takes_of rfl rfl rfl rfl) (aCons (eSlot 1) aNil)))
    (bOne (kRet (eTupF B.tuple (eSlot 1)))))))) b g
abbrev s__law_told : Stmt := topS 46
theorem sc__law_told : FnScope ["_law_text", "_law_found", "error"] ["_law_text"] (defScope s__law_told) := ⟨rfl, rfl, rfl, by decide +kernel, rfl, by decide +kernel, by decide +kernel⟩
def f__law_told : FO :=
  sTryN 2 (sAsg (fCall 1 sem_read_book (fCons (fSlot 0) fNil)) (gNm 1)) [(1, fun as => fldD 0 as), (0, fun as => .tuple [fldD 0 as, fldD 1 as])] (sRet (fLenS 1))
def sem__law_told : Sem' := semOf 3 false f__law_told
theorem ok__law_told {k : Nat} {f : Addr} {fd : FuncData} (F : Fun K "_law_told" "_law_told" s__law_told f fd) (b : Binds K fd ["_law_text"] []) (g : mg "_law_told" = some (.ref f)) (B : Bt mg) {C_BadBook fI_BadBook : Addr} (TX_BadBook : XCls K mg "BadBook" C_BadBook fI_BadBook ["name"]) (hex_BadBook : ex 1 = some (C_BadBook, (["name"] : List Str))) {C_BadText fI_BadText : Addr} (TX_BadText : XCls K mg "BadText" C_BadText fI_BadText ["line", "column"]) (hex_BadText : ex 0 = some (C_BadText, (["line", "column"] : List Str))) (ap_BadText_BadBook : PySem.W.exmOne K (.ref C_BadText) (.ref C_BadBook) = some false) (K_read_book : FnD P w K mg base ex k "read_book" false 1 sem_read_book) : FnD P w K mg base ex (k + 1) "_law_told" false 1 sem__law_told := by
  have Sc := sc__law_told
  exact fnD F Sc (by decide) (by decide) (fun cdv A outer s H E hg => have hr := hg.rm; bOne (kTry2E (i := 2) rfl rfl Sc.nd rfl rfl TX_BadBook hex_BadBook TX_BadText hex_BadText ap_BadText_BadBook (takes_of rfl rfl rfl rfl) (fun W pn xe tk' => bOne (kSet (i := 1) Sc.nd (eCall K_read_book hg tk' (aCons (eSlot 0) aNil)))) (bOne (kRet (eLenS 1 B.len))) (fun a oe cls d pn hz hf => pe_xf (xfB_ok TX_BadBook.xf) (TX_BadBook.no "name" (by decide)) hz hf (pv 2)) (fun a oe cls d pn hz hf => pe_tup (pa_cons (pe_xf (xfB_ok TX_BadText.xf) (TX_BadText.no "line" (by decide)) hz hf (pv 2)) (pa_cons (pe_xf (xfB_ok TX_BadText.xf) (TX_BadText.no "column" (by decide)) hz hf (pv 2)) pa_nil))) (hv_fld hex_BadBook rfl) (hv_tup (hva_cons (hv_fld hex_BadText rfl) (hva_cons (hv_fld hex_BadText rfl) hva_nil)) (fun _ => (by decide : 2 ≤ sizeLine))))) b g
abbrev s_law : Stmt := topS 47
theorem sc_law : FnScope ["_law_script", "_law_draw_here", "_law_turn", "_law_lines", "_law_due", "_law_names", "_law_number_here", "_law_kind", "_law_name", "_law_pattern", "_law_at"] ["_law_script"] (defScope s_law) := ⟨rfl, rfl, rfl, by decide +kernel, rfl, by decide +kernel, by decide +kernel⟩
def f_law : FO :=
  sSeq (sFor [2, 3, 4, 5, 6, 7, 8, 9, 10] (fR1 (fCons (fC (.int 3)) fNil)) (gNm 2) (sSeq (sMix [3, 4, 5] (fIts [.inr (fO (fLim fNil)), .inl (fC .none), .inr (fO (fLim fNil))]))
    (sSeq (sFor [6, 7, 8, 9] (fR1 (fCons (fCallH 1 1 sem__law_next (fCons (fC (.int 11)) fNil)) fNil)) (gNm 6) (sSeq (sAsg (fCallH 1 1 sem__law_next (fCons (fC (.int 8)) fNil)) (gNm 7))
    (sSeq (sAsg (fIf (fAnd (tVal (fCmpS dEq 7 (fC (.int 0)))) (tVal (fCmpS dNe 5 (fFz (fLim fNil))))) (fLent (fCallH 1 1 sem__law_pick (fCons (fSlot 5) fNil))) (fBin dAddX (fC (.str "r")) (fB1 dStr (fSlot 6)))) (gNm 8))
    (sSeq (sAsg (fIf (tVal (fCmpS dEq 7 (fC (.int 1)))) (fCallH 1 1 sem__law_pick (fCons (fFz (fLim (fCons (fC (.str "a*")) (fCons (fC (.str "a?b?")) (fCons (fC (.str "!a")) (fCons (fC (.str "a{0,3}")) (fCons (fC (.str "^ a* $")) (fCons (fC (.str "(b|a*)")) fNil)))))))) fNil)) (fCallH 1 1 sem__law_pick (fCons (fFz (fLim (fCons (fC (.str "a")) (fCons (fC (.str "^ab$")) (fCons (fC (.str "a+")) (fCons (fC (.str ". b")) fNil)))))) fNil))) (gNm 9))
    (sSeq (sIf (fAnd (tVal (fBin dIsN (fSlot 4) (fC .none))) (fOr (fLentT (tVal (fBin dIn (fSlot 8) (fSlot 5)))) (fOr (tVal (fCmpS dEq 7 (fC (.int 1)))) (tVal (fBin dGe (fSlot 6) (fC (.int 8))))))) (sAsg (fSlot 8) (gNm 4)) sNil)
    (sSeq (sApp 5 (fSlot 8))
    (sApp 3 (fBin dAddX (fBin dAddX (fSlot 8) (fC (.str ": "))) (fSlot 9)))))))))
    (sSeq (sAsg (fIf (tVal (fBin dIsN (fSlot 4) (fC .none))) (fLenS 5) (fSlot 4)) (gNm 4))
    (sSeq (sIf (tVal (fBin dEq (fCallH 1 1 sem__law_next (fCons (fC (.int 3)) fNil)) (fC (.int 0)))) (sSeq (sAsg (fCallH 1 1 sem__law_next (fCons (fBin dAddX (fLenS 3) (fC (.int 1))) fNil)) (gNm 10))
    (sSeq (sSetO 3 (fCatL (fFz (fCatL (fCutX (fSlot 3) fNoP (fPt (fSlot 10))) (fFz (fLim (fCons (fC (.str "x: (")) fNil))))) (fCutX (fSlot 3) (fPt (fSlot 10)) fNoP)))
    (sAsg (fTup (fCons (fBin dAddX (fSlot 10) (fC (.int 1))) (fCons (fC (.int 5)) fNil))) (gNm 4)))) sNil)
    (sIf (tVal (fBin dNe (fCall 1 sem__law_told (fCons (fJoin (fC (.str "\n")) (fSlot 3)) fNil)) (fSlot 4))) (sRet (fC (.bool false))) sNil))))))
    (sRet (fC (.bool true)))
theorem ok_law {k : Nat} {f : Addr} {fd : FuncData} (F : Fun K "law" "law" s_law f fd) (B : Bt mg) (nol : NoL K) (K__law_next : FnD P w K mg base ex k "_law_next" true 1 sem__law_next) (K__law_pick : FnD P w K mg base ex k "_law_pick" true 1 sem__law_pick) (K__law_told : FnD P w K mg base ex k "_law_told" false 1 sem__law_told)
    (good : ∀ ns : List Int, ns.length ≤ 63 → ∃ s', f_law (lawS 11 ns) = .rt (.bool true) s') : FnG P w K mg base (L2.CX P w) (k + 1) f fd ["_law_script"] (spLaw K) := by
  have Sc := sc_law
  exact lawD F Sc (by decide) rfl (fun cdv A outer s H E => kMkD Sc.nd) (fun cdv A outer s H E hg => have hr := hg.rm; bCons (kFor (kl := [2, 3, 4, 5, 6, 7, 8, 9, 10]) (passes_of rfl) rfl (iR1 B.range (aCons eInt aNil)) (gName_ (i := 2) Sc.nd) (bCons (kMix3 (i0 := 3) (i1 := 4) (i2 := 5) Sc.nd (xNew (nOwn (oLst aNil)) (xVal eNon (xNew (nOwn (oLst aNil)) xNil))))
    (bCons (kFor (kl := [6, 7, 8, 9]) (passes_of rfl) rfl (iR1 B.range (aCons (eCallH 1 K__law_next hg (takes_of rfl rfl rfl rfl) (aCons eInt aNil)) aNil)) (gName_ (i := 6) Sc.nd) (bCons (kSet (i := 7) Sc.nd (eCallH 1 K__law_next hg (takes_of rfl rfl rfl rfl) (aCons eInt aNil)))
    (bCons (kSet (i := 8) Sc.nd (eIfE (PW.pt (tAndW (tEqS 7 hr eInt) (tAnd1 (tNeS 5 hr (eFz (oLst aNil)))))) (eLent (eCallH 1 K__law_pick hg (takes_of rfl rfl rfl rfl) (aCons (eSlot 5) aNil))) (eAddX eStr (eStrF B.str (eSlot 6)))))
    (bCons (kSet (i := 9) Sc.nd (eIfE (tEqS 7 hr eInt) (eCallH 1 K__law_pick hg (takes_of rfl rfl rfl rfl) (aCons (eFz (oLst (aCons eStr (aCons eStr (aCons eStr (aCons eStr (aCons eStr (aCons eStr aNil)))))))) aNil)) (eCallH 1 K__law_pick hg (takes_of rfl rfl rfl rfl) (aCons (eFz (oLst (aCons eStr (aCons eStr (aCons eStr (aCons eStr aNil)))))) aNil))))
    (bCons (kIf (PW.pt (tAndW (tIsN' (eSlot 4) eNon) (tAnd1 (PW.pt (tOrW (tLent (tIn' hr (eSlot 8) (eSlot 5))) (tOrW (tEqS 7 hr eInt) (tOr1 (tGe' (eSlot 6) eInt)))))))) (bOne (kSet (i := 4) Sc.nd (eSlot 8))) bNil)
    (bCons (kApp 5 (eSlot 8))
    (bOne (kApp 3 (eAddX (eAddX (eSlot 8) eStr) (eSlot 9))))))))))
    (bCons (kSet (i := 4) Sc.nd (eIfE (tIsN' (eSlot 4) eNon) (eLenS 5 B.len) (eSlot 4)))
    (bCons (kIf (tEq' hr (eCallH 1 K__law_next hg (takes_of rfl rfl rfl rfl) (aCons eInt aNil)) eInt) (bCons (kSet (i := 10) Sc.nd (eCallH 1 K__law_next hg (takes_of rfl rfl rfl rfl) (aCons (eAddX (eLenS 3 B.len) eInt) aNil)))
    (bCons (kSetO (i := 3) Sc.nd (oCatL nol (eFz (oCatL nol (eCutX (eSlot 3) pNone (pSome (eSlot 10))) (eFz (oLst (aCons eStr aNil))))) (eCutX (eSlot 3) (pSome (eSlot 10)) pNone)))
    (bOne (kSet (i := 4) Sc.nd (eTup (aCons (eAddX (eSlot 10) eInt) (aCons eInt aNil))))))) bNil)
    (bOne (kIf (tNe' hr (eCall K__law_told hg (takes_of rfl rfl rfl rfl) (aCons (eJoin eStr (eSlot 3)) aNil)) (eSlot 4)) (bOne (kRet eBl)) bNil)))))))
    (bOne (kRet eBl))) good
end
end Lk10
namespace Lk10
open PySem PySem.Spec L2 PD
open PyProof.Rows hiding St
variable [WI]
theorem cell_ok (ns : List Int) (i : Int) (h : 0 ≤ i) (w : Wst) : ∃ c, sem__law_cell_at [.list (ns.map PyData.int), .int i] w = .ret (.int c) w := by
  obtain ⟨n, rfl⟩ := Int.eq_ofNat_of_zero_le h
  by_cases hn : n < ns.length
  · have hn' : n < (ns.map PyData.int).length := by rw [List.length_map]; exact hn
    refine ⟨ns[n], ?_⟩
    simp [sem__law_cell_at, semOf, startS, f__law_cell_at, rdSlot, fLenS, look, lenD, fIxS, dIx, hn, atI_nn hn']
  · refine ⟨0, ?_⟩
    simp [sem__law_cell_at, semOf, startS, f__law_cell_at, rdSlot, fLenS, look, lenD, hn]
theorem draw_ok (c k b : Int) (hb : 0 < b) (w : Wst) : ∃ r, 0 ≤ r ∧ r < b ∧ sem__law_draw [.int c, .int k, .int b] w = .ret (.int r) w := by
  have h16 := Int.emod_nonneg k (b := 16) (by decide)
  have h17 := Int.emod_lt_of_pos k (b := 16) (by decide)
  obtain ⟨n, hn⟩ := Int.eq_ofNat_of_zero_le h16
  have hn2 : n < 16 := by omega
  have key : ∃ p : Int, 0 < p ∧ atI ([1000003, 1000033, 1000037, 1000039, 1000081, 1000099, 1000117, 1000121, 1000133, 1000151, 1000159, 1000171, 1000183, 1000187, 1000193, 1000199].map PyData.int) (k % 16) = some (.int p) := by
    rw [hn]
    have z : ∀ m, m < 16 → ∃ p : Int, 0 < p ∧ atI ([1000003, 1000033, 1000037, 1000039, 1000081, 1000099, 1000117, 1000121, 1000133, 1000151, 1000159, 1000171, 1000183, 1000187, 1000193, 1000199].map PyData.int) ((m : Nat) : Int) = some (.int p) := by
      intro m hm
      have hl : m < ([1000003, 1000033, 1000037, 1000039, 1000081, 1000099, 1000117, 1000121, 1000133, 1000151, 1000159, 1000171, 1000183, 1000187, 1000193, 1000199] : List Int).length := hm
      refine ⟨_, ?_, (atI_nn (by rw [List.length_map]; exact hl)).trans (congrArg some (List.getElem_map ..))⟩
      have za : ∀ x ∈ ([1000003, 1000033, 1000037, 1000039, 1000081, 1000099, 1000117, 1000121, 1000133, 1000151, 1000159, 1000171, 1000183, 1000187, 1000193, 1000199] : List Int), 0 < x := by decide
      exact za _ (List.getElem_mem hl)
    exact z n hn2
  obtain ⟨p, hp, ep⟩ := key
  refine ⟨(c * 48271 + k * 69621) % p % b, Int.emod_nonneg _ (by omega), Int.emod_lt_of_pos _ hb, ?_⟩
  simp only [List.map_cons, List.map_nil] at ep
  have e1 : dMul (.int c) (.int 48271) = some (.int (c * 48271)) := dMul_r (by decide) (by decide)
  have e2 : dMul (.int k) (.int 69621) = some (.int (k * 69621)) := dMul_r (by decide) (by decide)
  have e3 : dMod (.int k) (.int 16) = some (.int (k % 16)) := dMod_ii (by decide)
  have hs : (16 : Nat) ≤ sizeLine := by decide
  simp [sem__law_draw, semOf, startS, f__law_draw, rdSlot, e1, e2, e3, dIntO, fIxS, look, dIx, ep, dMod_ii hp, dMod_ii hb, hs]
theorem number_ok (c k b : Int) (hk : 0 ≤ k) (hk2 : k ≤ 12) (hb : 0 < b) (w : Wst) : ∃ r, 0 ≤ r ∧ r < b ∧ sem__law_number [.int c, .int k, .int b] w = .ret (.int r) w := by
  have h16 := Int.emod_nonneg k (b := 24) (by decide)
  have h17 := Int.emod_lt_of_pos k (b := 24) (by decide)
  have e3 : dMod (.int k) (.int 24) = some (.int (k % 24)) := dMod_ii (by decide)
  have e4 : rng1 (.int (k % 24)) = some (upTo 0 (k % 24).toNat) := rng1_i (by omega) (by omega)
  have st : forD [4] (gNm 4) (sAsg (fBin dMul (fSlot 3) (fC (.int 1009))) (gNm 3)) (upTo 0 (k % 24).toNat) ⟨[some (.val (.int c)), some (.val (.int k)), some (.val (.int b)), some (.val (.int 1)), none, none, none], w⟩
      = .nx ⟨[some (.val (.int c)), some (.val (.int k)), some (.val (.int b)), some (.val (.int (1009 ^ (k % 24).toNat))), none, none, none], w⟩ := by
    have z := forD_fold (kl := [4]) (tg := gNm 4) (body := sAsg (fBin dMul (fSlot 3) (fC (.int 1009))) (gNm 3)) (fun (i : Nat) => PyData.int (0 + i)) (fun p : Int => (⟨[some (.val (.int c)), some (.val (.int k)), some (.val (.int b)), some (.val (.int p)), none, none, none], w⟩ : S)) (fun p _ => p * 1009) (fun _ => True) (List.range (k % 24).toNat) (fun p x _ _ => by
      have e1 : dMul (.int p) (.int 1009) = some (.int (p * 1009)) := dMul_r (by decide) (by decide)
      refine ⟨trivial, _, ⟨[some (.val (.int c)), some (.val (.int k)), some (.val (.int b)), some (.val (.int (p * 1009))), some (.val (.int (0 + x))), none, none], w⟩, rfl, .inl ?_, rfl⟩
      simp [rdSlot, e1]) 1 trivial
    have y : ∀ (n : Nat) (a : Int), (List.range n).foldl (fun p _ => p * 1009) a = a * 1009 ^ n := by
      intro n
      induction n with
      | zero => intro a; simp
      | succ n ih => intro a; rw [List.range_succ, List.foldl_append, ih]; simp [Int.pow_succ, Int.mul_assoc]
    rw [y, Int.one_mul] at z
    exact z.1
  have hq0 : (0 : Int) < 1009 ^ (k % 24).toNat := Int.pow_pos (by decide)
  have hq1 : (1009 : Int) ^ (k % 24).toNat < 2 ^ 8999 := by
    have z : ∀ m, m < 24 → (1009 : Int) ^ m < 2 ^ 8999 := by decide +kernel
    exact z _ (by omega)
  have e5 : ∀ x : Int, dDiv (.int x) (.int (1009 ^ (k % 24).toNat)) = some (.int (x / 1009 ^ (k % 24).toNat)) := fun x => dDiv_ii hq0 hq1
  have e6 : dPow (.int 10) (.int 18) = some (.int (10 ^ 18)) := rfl
  have e7 : ∀ x : Int, dMod (.int x) (.int 1009) = some (.int (x % 1009)) := fun x => dMod_ii (by decide)
  have e8 : ∀ x : Int, dMod (.int x) (.int 1000003) = some (.int (x % 1000003)) := fun x => dMod_ii (by decide)
  have e9 : ∀ x : Int, dMod (.int x) (.int b) = some (.int (x % b)) := fun x => dMod_ii hb
  have e10 : ∀ x : Int, dMod (.int x) (.int 9) = some (.int (x % 9)) := fun x => dMod_ii (by decide)
  have e11 : dMul (.int 977) (.int k) = some (.int (977 * k)) := dMul_l (by decide) (by decide)
  have e12 : dMul (.int 31) (.int k) = some (.int (31 * k)) := dMul_l (by decide) (by decide)
  have h3 := Int.emod_nonneg c (b := 1000003) (by decide)
  have h4 := Int.emod_lt_of_pos c (b := 1000003) (by decide)
  have e13 : ∀ x : Int, dMul (.int (c % 1000003 + 977 * k)) (.int x) = some (.int ((c % 1000003 + 977 * k) * x)) := fun x => dMul_l (by omega) (by omega)
  simp only [sem__law_number, semOf, startS, f__law_number]
  by_cases hr : 0 < (c - 10 ^ 18) / 1009 ^ (k % 24).toNat
  · refine ⟨(c - 10 ^ 18) / 1009 ^ (k % 24).toNat % 1009 % b, Int.emod_nonneg _ (by omega), Int.emod_lt_of_pos _ hb, ?_⟩
    simp only [Int.reducePow] at hr
    simp [rdSlot, e3, dIntO, e4, st, e5, e6, S.put, hr, e7, e9]
  · obtain ⟨r, _, _, e14⟩ := draw_ok ((c % 1000003 + 977 * k) * (c % 1000003 + 31 * k + 5)) (k % 9 + 1) 999983 (by decide) w
    refine ⟨r % b, Int.emod_nonneg _ (by omega), Int.emod_lt_of_pos _ hb, ?_⟩
    simp only [Int.reducePow] at hr
    simp [rdSlot, e3, dIntO, e4, st, e5, e6, S.put, hr, e7, e9, e8, e10, e11, e12, e13, e14]
theorem next_ok (ns : List Int) (k b : Int) (hk : 0 ≤ k) (hb : 0 < b) : ∃ r, 0 ≤ r ∧ r < b ∧ sem__law_next [.int b] ⟨ns, k⟩ = .ret (.int r) ⟨ns, k + 1⟩ := by
  have h1 : 0 ≤ (k + 1) / 12 := Int.ediv_nonneg (by omega) (by decide)
  obtain ⟨c, ec⟩ := cell_ok ns (0 + (k + 1) / 12) (by omega) ⟨ns, k + 1⟩
  obtain ⟨r, r0, r1, er⟩ := number_ok (c + 31 * ((k + 1) / 12)) ((k + 1) % 12 + 1) b (by have := Int.emod_nonneg (k + 1) (b := 12) (by decide); omega) (by have := Int.emod_lt_of_pos (k + 1) (b := 12) (by decide); omega) hb ⟨ns, k + 1⟩
  refine ⟨r, r0, r1, ?_⟩
  have e1 : dDiv (.int (k + 1)) (.int 12) = some (.int ((k + 1) / 12)) := dDiv_ii (by decide) (by decide)
  have e2 : dMul (.int 31) (.int ((k + 1) / 12)) = some (.int (31 * ((k + 1) / 12))) := dMul_l (by decide) (by decide)
  have e3 : dMod (.int (k + 1)) (.int 12) = some (.int ((k + 1) % 12)) := dMod_ii (by decide)
  simp only [Int.zero_add] at ec
  simp [sem__law_next, semOf, startS, f__law_next, rdSlot, sHd, fHd, hdAt, e1, e2, e3, dIntO, ec, er, S.put]
theorem pick_ok (ns : List Int) (k : Int) (ds : List D) (hk : 0 ≤ k) (hd : 0 < ds.length) : ∃ d ∈ ds, sem__law_pick [.list ds] ⟨ns, k⟩ = .ret d ⟨ns, k + 1⟩ := by
  obtain ⟨r, r0, r1, er⟩ := next_ok ns k ds.length hk (by omega)
  obtain ⟨n, rfl⟩ := Int.eq_ofNat_of_zero_le r0
  have hn : n < ds.length := by omega
  refine ⟨ds[n], List.getElem_mem hn, ?_⟩
  simp [sem__law_pick, semOf, startS, f__law_pick, rdSlot, fIxS, fLenS, look, lenD, fCallH, er, dIx, atI_nn hn]
end Lk10
namespace Lk10
open PySem PySem.Spec L2 PD
open PyProof.Rows hiding St
/-- the names, the patterns, the lines -/
def nm (i : Nat) : Str := "r" ++ (toString (i : Int) : Str)
def pats : List Str := ["a*", "a?b?", "!a", "a{0,3}", "^ a* $", "(b|a*)", "a", "^ab$", "a+", ". b"]
def pat (j : Nat) : Str := pats.getD j ""
def ln (i j : Nat) : Str := nm i ++ ": " ++ pat j
def retD : FR → D
  | .ret d _ => d
  | _ => .none
def fld (k : Nat) : D → D
  | .tuple ds => ds.getD k .none
  | _ => .none
/-- the rule of a line, made of the line of r0 -/
def fsD (j : Nat) : D := fld 1 (retD (sem_read_rule [.str (ln 0 j), .int 0] ⟨[], 0⟩))
def laD (j : Nat) : D := fld 2 (retD (sem_read_rule [.str (ln 0 j), .int 0] ⟨[], 0⟩))
def trD (j : Nat) : D := fld 3 (retD (sem_read_rule [.str (ln 0 j), .int 0] ⟨[], 0⟩))
def SG : FE := fNewM "PatternReader" "sign" sem_PatternReader_sign (fNew "PatternReader" 3 sem_PatternReader___init__ (fCons (fSlot 3) (fCons (fSlot 2) (fCons (fC (.int 0)) fNil))))
/-- it takes the empty row -/
def bad (j : Nat) : Bool := decide (j < 6)
theorem r_0_0 (n : Int) (w : Wst) : sem_read_rule [.str (ln 0 0), .int n] w = .ret (.tuple [.str (nm 0), fsD 0, laD 0, trD 0]) w := by kernel_rfl
theorem g_0_0 (a b : Option Ent) (n : Int) (w : Wst) : SG ⟨[a, b, some (.val (.int n)), some (.val (.str (ln 0 0)))], w⟩ = .ok (.str "r") ⟨[a, b, some (.val (.int n)), some (.val (.str (ln 0 0)))], w⟩ := by kernel_rfl
theorem r_0_1 (n : Int) (w : Wst) : sem_read_rule [.str (ln 0 1), .int n] w = .ret (.tuple [.str (nm 0), fsD 1, laD 1, trD 1]) w := by kernel_rfl
theorem g_0_1 (a b : Option Ent) (n : Int) (w : Wst) : SG ⟨[a, b, some (.val (.int n)), some (.val (.str (ln 0 1)))], w⟩ = .ok (.str "r") ⟨[a, b, some (.val (.int n)), some (.val (.str (ln 0 1)))], w⟩ := by kernel_rfl
theorem r_0_2 (n : Int) (w : Wst) : sem_read_rule [.str (ln 0 2), .int n] w = .ret (.tuple [.str (nm 0), fsD 2, laD 2, trD 2]) w := by kernel_rfl
theorem g_0_2 (a b : Option Ent) (n : Int) (w : Wst) : SG ⟨[a, b, some (.val (.int n)), some (.val (.str (ln 0 2)))], w⟩ = .ok (.str "r") ⟨[a, b, some (.val (.int n)), some (.val (.str (ln 0 2)))], w⟩ := by kernel_rfl
theorem r_0_3 (n : Int) (w : Wst) : sem_read_rule [.str (ln 0 3), .int n] w = .ret (.tuple [.str (nm 0), fsD 3, laD 3, trD 3]) w := by kernel_rfl
theorem g_0_3 (a b : Option Ent) (n : Int) (w : Wst) : SG ⟨[a, b, some (.val (.int n)), some (.val (.str (ln 0 3)))], w⟩ = .ok (.str "r") ⟨[a, b, some (.val (.int n)), some (.val (.str (ln 0 3)))], w⟩ := by kernel_rfl
theorem r_0_4 (n : Int) (w : Wst) : sem_read_rule [.str (ln 0 4), .int n] w = .ret (.tuple [.str (nm 0), fsD 4, laD 4, trD 4]) w := by kernel_rfl
theorem g_0_4 (a b : Option Ent) (n : Int) (w : Wst) : SG ⟨[a, b, some (.val (.int n)), some (.val (.str (ln 0 4)))], w⟩ = .ok (.str "r") ⟨[a, b, some (.val (.int n)), some (.val (.str (ln 0 4)))], w⟩ := by kernel_rfl
theorem r_0_5 (n : Int) (w : Wst) : sem_read_rule [.str (ln 0 5), .int n] w = .ret (.tuple [.str (nm 0), fsD 5, laD 5, trD 5]) w := by kernel_rfl
theorem g_0_5 (a b : Option Ent) (n : Int) (w : Wst) : SG ⟨[a, b, some (.val (.int n)), some (.val (.str (ln 0 5)))], w⟩ = .ok (.str "r") ⟨[a, b, some (.val (.int n)), some (.val (.str (ln 0 5)))], w⟩ := by kernel_rfl
theorem r_0_6 (n : Int) (w : Wst) : sem_read_rule [.str (ln 0 6), .int n] w = .ret (.tuple [.str (nm 0), fsD 6, laD 6, trD 6]) w := by kernel_rfl
theorem g_0_6 (a b : Option Ent) (n : Int) (w : Wst) : SG ⟨[a, b, some (.val (.int n)), some (.val (.str (ln 0 6)))], w⟩ = .ok (.str "r") ⟨[a, b, some (.val (.int n)), some (.val (.str (ln 0 6)))], w⟩ := by kernel_rfl
theorem r_0_7 (n : Int) (w : Wst) : sem_read_rule [.str (ln 0 7), .int n] w = .ret (.tuple [.str (nm 0), fsD 7, laD 7, trD 7]) w := by kernel_rfl
theorem g_0_7 (a b : Option Ent) (n : Int) (w : Wst) : SG ⟨[a, b, some (.val (.int n)), some (.val (.str (ln 0 7)))], w⟩ = .ok (.str "r") ⟨[a, b, some (.val (.int n)), some (.val (.str (ln 0 7)))], w⟩ := by kernel_rfl
theorem r_0_8 (n : Int) (w : Wst) : sem_read_rule [.str (ln 0 8), .int n] w = .ret (.tuple [.str (nm 0), fsD 8, laD 8, trD 8]) w := by kernel_rfl
theorem g_0_8 (a b : Option Ent) (n : Int) (w : Wst) : SG ⟨[a, b, some (.val (.int n)), some (.val (.str (ln 0 8)))], w⟩ = .ok (.str "r") ⟨[a, b, some (.val (.int n)), some (.val (.str (ln 0 8)))], w⟩ := by kernel_rfl
theorem r_0_9 (n : Int) (w : Wst) : sem_read_rule [.str (ln 0 9), .int n] w = .ret (.tuple [.str (nm 0), fsD 9, laD 9, trD 9]) w := by kernel_rfl
theorem g_0_9 (a b : Option Ent) (n : Int) (w : Wst) : SG ⟨[a, b, some (.val (.int n)), some (.val (.str (ln 0 9)))], w⟩ = .ok (.str "r") ⟨[a, b, some (.val (.int n)), some (.val (.str (ln 0 9)))], w⟩ := by kernel_rfl
theorem r_1_0 (n : Int) (w : Wst) : sem_read_rule [.str (ln 1 0), .int n] w = .ret (.tuple [.str (nm 1), fsD 0, laD 0, trD 0]) w := by kernel_rfl
theorem g_1_0 (a b : Option Ent) (n : Int) (w : Wst) : SG ⟨[a, b, some (.val (.int n)), some (.val (.str (ln 1 0)))], w⟩ = .ok (.str "r") ⟨[a, b, some (.val (.int n)), some (.val (.str (ln 1 0)))], w⟩ := by kernel_rfl
theorem r_1_1 (n : Int) (w : Wst) : sem_read_rule [.str (ln 1 1), .int n] w = .ret (.tuple [.str (nm 1), fsD 1, laD 1, trD 1]) w := by kernel_rfl
theorem g_1_1 (a b : Option Ent) (n : Int) (w : Wst) : SG ⟨[a, b, some (.val (.int n)), some (.val (.str (ln 1 1)))], w⟩ = .ok (.str "r") ⟨[a, b, some (.val (.int n)), some (.val (.str (ln 1 1)))], w⟩ := by kernel_rfl
theorem r_1_2 (n : Int) (w : Wst) : sem_read_rule [.str (ln 1 2), .int n] w = .ret (.tuple [.str (nm 1), fsD 2, laD 2, trD 2]) w := by kernel_rfl
theorem g_1_2 (a b : Option Ent) (n : Int) (w : Wst) : SG ⟨[a, b, some (.val (.int n)), some (.val (.str (ln 1 2)))], w⟩ = .ok (.str "r") ⟨[a, b, some (.val (.int n)), some (.val (.str (ln 1 2)))], w⟩ := by kernel_rfl
theorem r_1_3 (n : Int) (w : Wst) : sem_read_rule [.str (ln 1 3), .int n] w = .ret (.tuple [.str (nm 1), fsD 3, laD 3, trD 3]) w := by kernel_rfl
theorem g_1_3 (a b : Option Ent) (n : Int) (w : Wst) : SG ⟨[a, b, some (.val (.int n)), some (.val (.str (ln 1 3)))], w⟩ = .ok (.str "r") ⟨[a, b, some (.val (.int n)), some (.val (.str (ln 1 3)))], w⟩ := by kernel_rfl
theorem r_1_4 (n : Int) (w : Wst) : sem_read_rule [.str (ln 1 4), .int n] w = .ret (.tuple [.str (nm 1), fsD 4, laD 4, trD 4]) w := by kernel_rfl
theorem g_1_4 (a b : Option Ent) (n : Int) (w : Wst) : SG ⟨[a, b, some (.val (.int n)), some (.val (.str (ln 1 4)))], w⟩ = .ok (.str "r") ⟨[a, b, some (.val (.int n)), some (.val (.str (ln 1 4)))], w⟩ := by kernel_rfl
theorem r_1_5 (n : Int) (w : Wst) : sem_read_rule [.str (ln 1 5), .int n] w = .ret (.tuple [.str (nm 1), fsD 5, laD 5, trD 5]) w := by kernel_rfl
theorem g_1_5 (a b : Option Ent) (n : Int) (w : Wst) : SG ⟨[a, b, some (.val (.int n)), some (.val (.str (ln 1 5)))], w⟩ = .ok (.str "r") ⟨[a, b, some (.val (.int n)), some (.val (.str (ln 1 5)))], w⟩ := by kernel_rfl
theorem r_1_6 (n : Int) (w : Wst) : sem_read_rule [.str (ln 1 6), .int n] w = .ret (.tuple [.str (nm 1), fsD 6, laD 6, trD 6]) w := by kernel_rfl
theorem g_1_6 (a b : Option Ent) (n : Int) (w : Wst) : SG ⟨[a, b, some (.val (.int n)), some (.val (.str (ln 1 6)))], w⟩ = .ok (.str "r") ⟨[a, b, some (.val (.int n)), some (.val (.str (ln 1 6)))], w⟩ := by kernel_rfl
theorem r_1_7 (n : Int) (w : Wst) : sem_read_rule [.str (ln 1 7), .int n] w = .ret (.tuple [.str (nm 1), fsD 7, laD 7, trD 7]) w := by kernel_rfl
theorem g_1_7 (a b : Option Ent) (n : Int) (w : Wst) : SG ⟨[a, b, some (.val (.int n)), some (.val (.str (ln 1 7)))], w⟩ = .ok (.str "r") ⟨[a, b, some (.val (.int n)), some (.val (.str (ln 1 7)))], w⟩ := by kernel_rfl
theorem r_1_8 (n : Int) (w : Wst) : sem_read_rule [.str (ln 1 8), .int n] w = .ret (.tuple [.str (nm 1), fsD 8, laD 8, trD 8]) w := by kernel_rfl
theorem g_1_8 (a b : Option Ent) (n : Int) (w : Wst) : SG ⟨[a, b, some (.val (.int n)), some (.val (.str (ln 1 8)))], w⟩ = .ok (.str "r") ⟨[a, b, some (.val (.int n)), some (.val (.str (ln 1 8)))], w⟩ := by kernel_rfl
theorem r_1_9 (n : Int) (w : Wst) : sem_read_rule [.str (ln 1 9), .int n] w = .ret (.tuple [.str (nm 1), fsD 9, laD 9, trD 9]) w := by kernel_rfl
theorem g_1_9 (a b : Option Ent) (n : Int) (w : Wst) : SG ⟨[a, b, some (.val (.int n)), some (.val (.str (ln 1 9)))], w⟩ = .ok (.str "r") ⟨[a, b, some (.val (.int n)), some (.val (.str (ln 1 9)))], w⟩ := by kernel_rfl
theorem r_2_0 (n : Int) (w : Wst) : sem_read_rule [.str (ln 2 0), .int n] w = .ret (.tuple [.str (nm 2), fsD 0, laD 0, trD 0]) w := by kernel_rfl
theorem g_2_0 (a b : Option Ent) (n : Int) (w : Wst) : SG ⟨[a, b, some (.val (.int n)), some (.val (.str (ln 2 0)))], w⟩ = .ok (.str "r") ⟨[a, b, some (.val (.int n)), some (.val (.str (ln 2 0)))], w⟩ := by kernel_rfl
theorem r_2_1 (n : Int) (w : Wst) : sem_read_rule [.str (ln 2 1), .int n] w = .ret (.tuple [.str (nm 2), fsD 1, laD 1, trD 1]) w := by kernel_rfl
theorem g_2_1 (a b : Option Ent) (n : Int) (w : Wst) : SG ⟨[a, b, some (.val (.int n)), some (.val (.str (ln 2 1)))], w⟩ = .ok (.str "r") ⟨[a, b, some (.val (.int n)), some (.val (.str (ln 2 1)))], w⟩ := by kernel_rfl
theorem r_2_2 (n : Int) (w : Wst) : sem_read_rule [.str (ln 2 2), .int n] w = .ret (.tuple [.str (nm 2), fsD 2, laD 2, trD 2]) w := by kernel_rfl
theorem g_2_2 (a b : Option Ent) (n : Int) (w : Wst) : SG ⟨[a, b, some (.val (.int n)), some (.val (.str (ln 2 2)))], w⟩ = .ok (.str "r") ⟨[a, b, some (.val (.int n)), some (.val (.str (ln 2 2)))], w⟩ := by kernel_rfl
theorem r_2_3 (n : Int) (w : Wst) : sem_read_rule [.str (ln 2 3), .int n] w = .ret (.tuple [.str (nm 2), fsD 3, laD 3, trD 3]) w := by kernel_rfl
theorem g_2_3 (a b : Option Ent) (n : Int) (w : Wst) : SG ⟨[a, b, some (.val (.int n)), some (.val (.str (ln 2 3)))], w⟩ = .ok (.str "r") ⟨[a, b, some (.val (.int n)), some (.val (.str (ln 2 3)))], w⟩ := by kernel_rfl
theorem r_2_4 (n : Int) (w : Wst) : sem_read_rule [.str (ln 2 4), .int n] w = .ret (.tuple [.str (nm 2), fsD 4, laD 4, trD 4]) w := by kernel_rfl
theorem g_2_4 (a b : Option Ent) (n : Int) (w : Wst) : SG ⟨[a, b, some (.val (.int n)), some (.val (.str (ln 2 4)))], w⟩ = .ok (.str "r") ⟨[a, b, some (.val (.int n)), some (.val (.str (ln 2 4)))], w⟩ := by kernel_rfl
theorem r_2_5 (n : Int) (w : Wst) : sem_read_rule [.str (ln 2 5), .int n] w = .ret (.tuple [.str (nm 2), fsD 5, laD 5, trD 5]) w := by kernel_rfl
theorem g_2_5 (a b : Option Ent) (n : Int) (w : Wst) : SG ⟨[a, b, some (.val (.int n)), some (.val (.str (ln 2 5)))], w⟩ = .ok (.str "r") ⟨[a, b, some (.val (.int n)), some (.val (.str (ln 2 5)))], w⟩ := by kernel_rfl
theorem r_2_6 (n : Int) (w : Wst) : sem_read_rule [.str (ln 2 6), .int n] w = .ret (.tuple [.str (nm 2), fsD 6, laD 6, trD 6]) w := by kernel_rfl
theorem g_2_6 (a b : Option Ent) (n : Int) (w : Wst) : SG ⟨[a, b, some (.val (.int n)), some (.val (.str (ln 2 6)))], w⟩ = .ok (.str "r") ⟨[a, b, some (.val (.int n)), some (.val (.str (ln 2 6)))], w⟩ := by kernel_rfl
theorem r_2_7 (n : Int) (w : Wst) : sem_read_rule [.str (ln 2 7), .int n] w = .ret (.tuple [.str (nm 2), fsD 7, laD 7, trD 7]) w := by kernel_rfl
theorem g_2_7 (a b : Option Ent) (n : Int) (w : Wst) : SG ⟨[a, b, some (.val (.int n)), some (.val (.str (ln 2 7)))], w⟩ = .ok (.str "r") ⟨[a, b, some (.val (.int n)), some (.val (.str (ln 2 7)))], w⟩ := by kernel_rfl
theorem r_2_8 (n : Int) (w : Wst) : sem_read_rule [.str (ln 2 8), .int n] w = .ret (.tuple [.str (nm 2), fsD 8, laD 8, trD 8]) w := by kernel_rfl
theorem g_2_8 (a b : Option Ent) (n : Int) (w : Wst) : SG ⟨[a, b, some (.val (.int n)), some (.val (.str (ln 2 8)))], w⟩ = .ok (.str "r") ⟨[a, b, some (.val (.int n)), some (.val (.str (ln 2 8)))], w⟩ := by kernel_rfl
theorem r_2_9 (n : Int) (w : Wst) : sem_read_rule [.str (ln 2 9), .int n] w = .ret (.tuple [.str (nm 2), fsD 9, laD 9, trD 9]) w := by kernel_rfl
theorem g_2_9 (a b : Option Ent) (n : Int) (w : Wst) : SG ⟨[a, b, some (.val (.int n)), some (.val (.str (ln 2 9)))], w⟩ = .ok (.str "r") ⟨[a, b, some (.val (.int n)), some (.val (.str (ln 2 9)))], w⟩ := by kernel_rfl
theorem r_3_0 (n : Int) (w : Wst) : sem_read_rule [.str (ln 3 0), .int n] w = .ret (.tuple [.str (nm 3), fsD 0, laD 0, trD 0]) w := by kernel_rfl
theorem g_3_0 (a b : Option Ent) (n : Int) (w : Wst) : SG ⟨[a, b, some (.val (.int n)), some (.val (.str (ln 3 0)))], w⟩ = .ok (.str "r") ⟨[a, b, some (.val (.int n)), some (.val (.str (ln 3 0)))], w⟩ := by kernel_rfl
theorem r_3_1 (n : Int) (w : Wst) : sem_read_rule [.str (ln 3 1), .int n] w = .ret (.tuple [.str (nm 3), fsD 1, laD 1, trD 1]) w := by kernel_rfl
theorem g_3_1 (a b : Option Ent) (n : Int) (w : Wst) : SG ⟨[a, b, some (.val (.int n)), some (.val (.str (ln 3 1)))], w⟩ = .ok (.str "r") ⟨[a, b, some (.val (.int n)), some (.val (.str (ln 3 1)))], w⟩ := by kernel_rfl
theorem r_3_2 (n : Int) (w : Wst) : sem_read_rule [.str (ln 3 2), .int n] w = .ret (.tuple [.str (nm 3), fsD 2, laD 2, trD 2]) w := by kernel_rfl
theorem g_3_2 (a b : Option Ent) (n : Int) (w : Wst) : SG ⟨[a, b, some (.val (.int n)), some (.val (.str (ln 3 2)))], w⟩ = .ok (.str "r") ⟨[a, b, some (.val (.int n)), some (.val (.str (ln 3 2)))], w⟩ := by kernel_rfl
theorem r_3_3 (n : Int) (w : Wst) : sem_read_rule [.str (ln 3 3), .int n] w = .ret (.tuple [.str (nm 3), fsD 3, laD 3, trD 3]) w := by kernel_rfl
theorem g_3_3 (a b : Option Ent) (n : Int) (w : Wst) : SG ⟨[a, b, some (.val (.int n)), some (.val (.str (ln 3 3)))], w⟩ = .ok (.str "r") ⟨[a, b, some (.val (.int n)), some (.val (.str (ln 3 3)))], w⟩ := by kernel_rfl
theorem r_3_4 (n : Int) (w : Wst) : sem_read_rule [.str (ln 3 4), .int n] w = .ret (.tuple [.str (nm 3), fsD 4, laD 4, trD 4]) w := by kernel_rfl
theorem g_3_4 (a b : Option Ent) (n : Int) (w : Wst) : SG ⟨[a, b, some (.val (.int n)), some (.val (.str (ln 3 4)))], w⟩ = .ok (.str "r") ⟨[a, b, some (.val (.int n)), some (.val (.str (ln 3 4)))], w⟩ := by kernel_rfl
theorem r_3_5 (n : Int) (w : Wst) : sem_read_rule [.str (ln 3 5), .int n] w = .ret (.tuple [.str (nm 3), fsD 5, laD 5, trD 5]) w := by kernel_rfl
theorem g_3_5 (a b : Option Ent) (n : Int) (w : Wst) : SG ⟨[a, b, some (.val (.int n)), some (.val (.str (ln 3 5)))], w⟩ = .ok (.str "r") ⟨[a, b, some (.val (.int n)), some (.val (.str (ln 3 5)))], w⟩ := by kernel_rfl
theorem r_3_6 (n : Int) (w : Wst) : sem_read_rule [.str (ln 3 6), .int n] w = .ret (.tuple [.str (nm 3), fsD 6, laD 6, trD 6]) w := by kernel_rfl
theorem g_3_6 (a b : Option Ent) (n : Int) (w : Wst) : SG ⟨[a, b, some (.val (.int n)), some (.val (.str (ln 3 6)))], w⟩ = .ok (.str "r") ⟨[a, b, some (.val (.int n)), some (.val (.str (ln 3 6)))], w⟩ := by kernel_rfl
theorem r_3_7 (n : Int) (w : Wst) : sem_read_rule [.str (ln 3 7), .int n] w = .ret (.tuple [.str (nm 3), fsD 7, laD 7, trD 7]) w := by kernel_rfl
theorem g_3_7 (a b : Option Ent) (n : Int) (w : Wst) : SG ⟨[a, b, some (.val (.int n)), some (.val (.str (ln 3 7)))], w⟩ = .ok (.str "r") ⟨[a, b, some (.val (.int n)), some (.val (.str (ln 3 7)))], w⟩ := by kernel_rfl
theorem r_3_8 (n : Int) (w : Wst) : sem_read_rule [.str (ln 3 8), .int n] w = .ret (.tuple [.str (nm 3), fsD 8, laD 8, trD 8]) w := by kernel_rfl
theorem g_3_8 (a b : Option Ent) (n : Int) (w : Wst) : SG ⟨[a, b, some (.val (.int n)), some (.val (.str (ln 3 8)))], w⟩ = .ok (.str "r") ⟨[a, b, some (.val (.int n)), some (.val (.str (ln 3 8)))], w⟩ := by kernel_rfl
theorem r_3_9 (n : Int) (w : Wst) : sem_read_rule [.str (ln 3 9), .int n] w = .ret (.tuple [.str (nm 3), fsD 9, laD 9, trD 9]) w := by kernel_rfl
theorem g_3_9 (a b : Option Ent) (n : Int) (w : Wst) : SG ⟨[a, b, some (.val (.int n)), some (.val (.str (ln 3 9)))], w⟩ = .ok (.str "r") ⟨[a, b, some (.val (.int n)), some (.val (.str (ln 3 9)))], w⟩ := by kernel_rfl
theorem r_4_0 (n : Int) (w : Wst) : sem_read_rule [.str (ln 4 0), .int n] w = .ret (.tuple [.str (nm 4), fsD 0, laD 0, trD 0]) w := by kernel_rfl
theorem g_4_0 (a b : Option Ent) (n : Int) (w : Wst) : SG ⟨[a, b, some (.val (.int n)), some (.val (.str (ln 4 0)))], w⟩ = .ok (.str "r") ⟨[a, b, some (.val (.int n)), some (.val (.str (ln 4 0)))], w⟩ := by kernel_rfl
theorem r_4_1 (n : Int) (w : Wst) : sem_read_rule [.str (ln 4 1), .int n] w = .ret (.tuple [.str (nm 4), fsD 1, laD 1, trD 1]) w := by kernel_rfl
theorem g_4_1 (a b : Option Ent) (n : Int) (w : Wst) : SG ⟨[a, b, some (.val (.int n)), some (.val (.str (ln 4 1)))], w⟩ = .ok (.str "r") ⟨[a, b, some (.val (.int n)), some (.val (.str (ln 4 1)))], w⟩ := by kernel_rfl
theorem r_4_2 (n : Int) (w : Wst) : sem_read_rule [.str (ln 4 2), .int n] w = .ret (.tuple [.str (nm 4), fsD 2, laD 2, trD 2]) w := by kernel_rfl
theorem g_4_2 (a b : Option Ent) (n : Int) (w : Wst) : SG ⟨[a, b, some (.val (.int n)), some (.val (.str (ln 4 2)))], w⟩ = .ok (.str "r") ⟨[a, b, some (.val (.int n)), some (.val (.str (ln 4 2)))], w⟩ := by kernel_rfl
theorem r_4_3 (n : Int) (w : Wst) : sem_read_rule [.str (ln 4 3), .int n] w = .ret (.tuple [.str (nm 4), fsD 3, laD 3, trD 3]) w := by kernel_rfl
theorem g_4_3 (a b : Option Ent) (n : Int) (w : Wst) : SG ⟨[a, b, some (.val (.int n)), some (.val (.str (ln 4 3)))], w⟩ = .ok (.str "r") ⟨[a, b, some (.val (.int n)), some (.val (.str (ln 4 3)))], w⟩ := by kernel_rfl
theorem r_4_4 (n : Int) (w : Wst) : sem_read_rule [.str (ln 4 4), .int n] w = .ret (.tuple [.str (nm 4), fsD 4, laD 4, trD 4]) w := by kernel_rfl
theorem g_4_4 (a b : Option Ent) (n : Int) (w : Wst) : SG ⟨[a, b, some (.val (.int n)), some (.val (.str (ln 4 4)))], w⟩ = .ok (.str "r") ⟨[a, b, some (.val (.int n)), some (.val (.str (ln 4 4)))], w⟩ := by kernel_rfl
theorem r_4_5 (n : Int) (w : Wst) : sem_read_rule [.str (ln 4 5), .int n] w = .ret (.tuple [.str (nm 4), fsD 5, laD 5, trD 5]) w := by kernel_rfl
theorem g_4_5 (a b : Option Ent) (n : Int) (w : Wst) : SG ⟨[a, b, some (.val (.int n)), some (.val (.str (ln 4 5)))], w⟩ = .ok (.str "r") ⟨[a, b, some (.val (.int n)), some (.val (.str (ln 4 5)))], w⟩ := by kernel_rfl
theorem r_4_6 (n : Int) (w : Wst) : sem_read_rule [.str (ln 4 6), .int n] w = .ret (.tuple [.str (nm 4), fsD 6, laD 6, trD 6]) w := by kernel_rfl
theorem g_4_6 (a b : Option Ent) (n : Int) (w : Wst) : SG ⟨[a, b, some (.val (.int n)), some (.val (.str (ln 4 6)))], w⟩ = .ok (.str "r") ⟨[a, b, some (.val (.int n)), some (.val (.str (ln 4 6)))], w⟩ := by kernel_rfl
theorem r_4_7 (n : Int) (w : Wst) : sem_read_rule [.str (ln 4 7), .int n] w = .ret (.tuple [.str (nm 4), fsD 7, laD 7, trD 7]) w := by kernel_rfl
theorem g_4_7 (a b : Option Ent) (n : Int) (w : Wst) : SG ⟨[a, b, some (.val (.int n)), some (.val (.str (ln 4 7)))], w⟩ = .ok (.str "r") ⟨[a, b, some (.val (.int n)), some (.val (.str (ln 4 7)))], w⟩ := by kernel_rfl
theorem r_4_8 (n : Int) (w : Wst) : sem_read_rule [.str (ln 4 8), .int n] w = .ret (.tuple [.str (nm 4), fsD 8, laD 8, trD 8]) w := by kernel_rfl
theorem g_4_8 (a b : Option Ent) (n : Int) (w : Wst) : SG ⟨[a, b, some (.val (.int n)), some (.val (.str (ln 4 8)))], w⟩ = .ok (.str "r") ⟨[a, b, some (.val (.int n)), some (.val (.str (ln 4 8)))], w⟩ := by kernel_rfl
theorem r_4_9 (n : Int) (w : Wst) : sem_read_rule [.str (ln 4 9), .int n] w = .ret (.tuple [.str (nm 4), fsD 9, laD 9, trD 9]) w := by kernel_rfl
theorem g_4_9 (a b : Option Ent) (n : Int) (w : Wst) : SG ⟨[a, b, some (.val (.int n)), some (.val (.str (ln 4 9)))], w⟩ = .ok (.str "r") ⟨[a, b, some (.val (.int n)), some (.val (.str (ln 4 9)))], w⟩ := by kernel_rfl
theorem r_5_0 (n : Int) (w : Wst) : sem_read_rule [.str (ln 5 0), .int n] w = .ret (.tuple [.str (nm 5), fsD 0, laD 0, trD 0]) w := by kernel_rfl
theorem g_5_0 (a b : Option Ent) (n : Int) (w : Wst) : SG ⟨[a, b, some (.val (.int n)), some (.val (.str (ln 5 0)))], w⟩ = .ok (.str "r") ⟨[a, b, some (.val (.int n)), some (.val (.str (ln 5 0)))], w⟩ := by kernel_rfl
theorem r_5_1 (n : Int) (w : Wst) : sem_read_rule [.str (ln 5 1), .int n] w = .ret (.tuple [.str (nm 5), fsD 1, laD 1, trD 1]) w := by kernel_rfl
theorem g_5_1 (a b : Option Ent) (n : Int) (w : Wst) : SG ⟨[a, b, some (.val (.int n)), some (.val (.str (ln 5 1)))], w⟩ = .ok (.str "r") ⟨[a, b, some (.val (.int n)), some (.val (.str (ln 5 1)))], w⟩ := by kernel_rfl
theorem r_5_2 (n : Int) (w : Wst) : sem_read_rule [.str (ln 5 2), .int n] w = .ret (.tuple [.str (nm 5), fsD 2, laD 2, trD 2]) w := by kernel_rfl
theorem g_5_2 (a b : Option Ent) (n : Int) (w : Wst) : SG ⟨[a, b, some (.val (.int n)), some (.val (.str (ln 5 2)))], w⟩ = .ok (.str "r") ⟨[a, b, some (.val (.int n)), some (.val (.str (ln 5 2)))], w⟩ := by kernel_rfl
theorem r_5_3 (n : Int) (w : Wst) : sem_read_rule [.str (ln 5 3), .int n] w = .ret (.tuple [.str (nm 5), fsD 3, laD 3, trD 3]) w := by kernel_rfl
theorem g_5_3 (a b : Option Ent) (n : Int) (w : Wst) : SG ⟨[a, b, some (.val (.int n)), some (.val (.str (ln 5 3)))], w⟩ = .ok (.str "r") ⟨[a, b, some (.val (.int n)), some (.val (.str (ln 5 3)))], w⟩ := by kernel_rfl
theorem r_5_4 (n : Int) (w : Wst) : sem_read_rule [.str (ln 5 4), .int n] w = .ret (.tuple [.str (nm 5), fsD 4, laD 4, trD 4]) w := by kernel_rfl
theorem g_5_4 (a b : Option Ent) (n : Int) (w : Wst) : SG ⟨[a, b, some (.val (.int n)), some (.val (.str (ln 5 4)))], w⟩ = .ok (.str "r") ⟨[a, b, some (.val (.int n)), some (.val (.str (ln 5 4)))], w⟩ := by kernel_rfl
theorem r_5_5 (n : Int) (w : Wst) : sem_read_rule [.str (ln 5 5), .int n] w = .ret (.tuple [.str (nm 5), fsD 5, laD 5, trD 5]) w := by kernel_rfl
theorem g_5_5 (a b : Option Ent) (n : Int) (w : Wst) : SG ⟨[a, b, some (.val (.int n)), some (.val (.str (ln 5 5)))], w⟩ = .ok (.str "r") ⟨[a, b, some (.val (.int n)), some (.val (.str (ln 5 5)))], w⟩ := by kernel_rfl
theorem r_5_6 (n : Int) (w : Wst) : sem_read_rule [.str (ln 5 6), .int n] w = .ret (.tuple [.str (nm 5), fsD 6, laD 6, trD 6]) w := by kernel_rfl
theorem g_5_6 (a b : Option Ent) (n : Int) (w : Wst) : SG ⟨[a, b, some (.val (.int n)), some (.val (.str (ln 5 6)))], w⟩ = .ok (.str "r") ⟨[a, b, some (.val (.int n)), some (.val (.str (ln 5 6)))], w⟩ := by kernel_rfl
theorem r_5_7 (n : Int) (w : Wst) : sem_read_rule [.str (ln 5 7), .int n] w = .ret (.tuple [.str (nm 5), fsD 7, laD 7, trD 7]) w := by kernel_rfl
theorem g_5_7 (a b : Option Ent) (n : Int) (w : Wst) : SG ⟨[a, b, some (.val (.int n)), some (.val (.str (ln 5 7)))], w⟩ = .ok (.str "r") ⟨[a, b, some (.val (.int n)), some (.val (.str (ln 5 7)))], w⟩ := by kernel_rfl
theorem r_5_8 (n : Int) (w : Wst) : sem_read_rule [.str (ln 5 8), .int n] w = .ret (.tuple [.str (nm 5), fsD 8, laD 8, trD 8]) w := by kernel_rfl
theorem g_5_8 (a b : Option Ent) (n : Int) (w : Wst) : SG ⟨[a, b, some (.val (.int n)), some (.val (.str (ln 5 8)))], w⟩ = .ok (.str "r") ⟨[a, b, some (.val (.int n)), some (.val (.str (ln 5 8)))], w⟩ := by kernel_rfl
theorem r_5_9 (n : Int) (w : Wst) : sem_read_rule [.str (ln 5 9), .int n] w = .ret (.tuple [.str (nm 5), fsD 9, laD 9, trD 9]) w := by kernel_rfl
theorem g_5_9 (a b : Option Ent) (n : Int) (w : Wst) : SG ⟨[a, b, some (.val (.int n)), some (.val (.str (ln 5 9)))], w⟩ = .ok (.str "r") ⟨[a, b, some (.val (.int n)), some (.val (.str (ln 5 9)))], w⟩ := by kernel_rfl
theorem r_6_0 (n : Int) (w : Wst) : sem_read_rule [.str (ln 6 0), .int n] w = .ret (.tuple [.str (nm 6), fsD 0, laD 0, trD 0]) w := by kernel_rfl
theorem g_6_0 (a b : Option Ent) (n : Int) (w : Wst) : SG ⟨[a, b, some (.val (.int n)), some (.val (.str (ln 6 0)))], w⟩ = .ok (.str "r") ⟨[a, b, some (.val (.int n)), some (.val (.str (ln 6 0)))], w⟩ := by kernel_rfl
theorem r_6_1 (n : Int) (w : Wst) : sem_read_rule [.str (ln 6 1), .int n] w = .ret (.tuple [.str (nm 6), fsD 1, laD 1, trD 1]) w := by kernel_rfl
theorem g_6_1 (a b : Option Ent) (n : Int) (w : Wst) : SG ⟨[a, b, some (.val (.int n)), some (.val (.str (ln 6 1)))], w⟩ = .ok (.str "r") ⟨[a, b, some (.val (.int n)), some (.val (.str (ln 6 1)))], w⟩ := by kernel_rfl
theorem r_6_2 (n : Int) (w : Wst) : sem_read_rule [.str (ln 6 2), .int n] w = .ret (.tuple [.str (nm 6), fsD 2, laD 2, trD 2]) w := by kernel_rfl
theorem g_6_2 (a b : Option Ent) (n : Int) (w : Wst) : SG ⟨[a, b, some (.val (.int n)), some (.val (.str (ln 6 2)))], w⟩ = .ok (.str "r") ⟨[a, b, some (.val (.int n)), some (.val (.str (ln 6 2)))], w⟩ := by kernel_rfl
theorem r_6_3 (n : Int) (w : Wst) : sem_read_rule [.str (ln 6 3), .int n] w = .ret (.tuple [.str (nm 6), fsD 3, laD 3, trD 3]) w := by kernel_rfl
theorem g_6_3 (a b : Option Ent) (n : Int) (w : Wst) : SG ⟨[a, b, some (.val (.int n)), some (.val (.str (ln 6 3)))], w⟩ = .ok (.str "r") ⟨[a, b, some (.val (.int n)), some (.val (.str (ln 6 3)))], w⟩ := by kernel_rfl
theorem r_6_4 (n : Int) (w : Wst) : sem_read_rule [.str (ln 6 4), .int n] w = .ret (.tuple [.str (nm 6), fsD 4, laD 4, trD 4]) w := by kernel_rfl
theorem g_6_4 (a b : Option Ent) (n : Int) (w : Wst) : SG ⟨[a, b, some (.val (.int n)), some (.val (.str (ln 6 4)))], w⟩ = .ok (.str "r") ⟨[a, b, some (.val (.int n)), some (.val (.str (ln 6 4)))], w⟩ := by kernel_rfl
theorem r_6_5 (n : Int) (w : Wst) : sem_read_rule [.str (ln 6 5), .int n] w = .ret (.tuple [.str (nm 6), fsD 5, laD 5, trD 5]) w := by kernel_rfl
theorem g_6_5 (a b : Option Ent) (n : Int) (w : Wst) : SG ⟨[a, b, some (.val (.int n)), some (.val (.str (ln 6 5)))], w⟩ = .ok (.str "r") ⟨[a, b, some (.val (.int n)), some (.val (.str (ln 6 5)))], w⟩ := by kernel_rfl
theorem r_6_6 (n : Int) (w : Wst) : sem_read_rule [.str (ln 6 6), .int n] w = .ret (.tuple [.str (nm 6), fsD 6, laD 6, trD 6]) w := by kernel_rfl
theorem g_6_6 (a b : Option Ent) (n : Int) (w : Wst) : SG ⟨[a, b, some (.val (.int n)), some (.val (.str (ln 6 6)))], w⟩ = .ok (.str "r") ⟨[a, b, some (.val (.int n)), some (.val (.str (ln 6 6)))], w⟩ := by kernel_rfl
theorem r_6_7 (n : Int) (w : Wst) : sem_read_rule [.str (ln 6 7), .int n] w = .ret (.tuple [.str (nm 6), fsD 7, laD 7, trD 7]) w := by kernel_rfl
theorem g_6_7 (a b : Option Ent) (n : Int) (w : Wst) : SG ⟨[a, b, some (.val (.int n)), some (.val (.str (ln 6 7)))], w⟩ = .ok (.str "r") ⟨[a, b, some (.val (.int n)), some (.val (.str (ln 6 7)))], w⟩ := by kernel_rfl
theorem r_6_8 (n : Int) (w : Wst) : sem_read_rule [.str (ln 6 8), .int n] w = .ret (.tuple [.str (nm 6), fsD 8, laD 8, trD 8]) w := by kernel_rfl
theorem g_6_8 (a b : Option Ent) (n : Int) (w : Wst) : SG ⟨[a, b, some (.val (.int n)), some (.val (.str (ln 6 8)))], w⟩ = .ok (.str "r") ⟨[a, b, some (.val (.int n)), some (.val (.str (ln 6 8)))], w⟩ := by kernel_rfl
theorem r_6_9 (n : Int) (w : Wst) : sem_read_rule [.str (ln 6 9), .int n] w = .ret (.tuple [.str (nm 6), fsD 9, laD 9, trD 9]) w := by kernel_rfl
theorem g_6_9 (a b : Option Ent) (n : Int) (w : Wst) : SG ⟨[a, b, some (.val (.int n)), some (.val (.str (ln 6 9)))], w⟩ = .ok (.str "r") ⟨[a, b, some (.val (.int n)), some (.val (.str (ln 6 9)))], w⟩ := by kernel_rfl
theorem r_7_0 (n : Int) (w : Wst) : sem_read_rule [.str (ln 7 0), .int n] w = .ret (.tuple [.str (nm 7), fsD 0, laD 0, trD 0]) w := by kernel_rfl
theorem g_7_0 (a b : Option Ent) (n : Int) (w : Wst) : SG ⟨[a, b, some (.val (.int n)), some (.val (.str (ln 7 0)))], w⟩ = .ok (.str "r") ⟨[a, b, some (.val (.int n)), some (.val (.str (ln 7 0)))], w⟩ := by kernel_rfl
theorem r_7_1 (n : Int) (w : Wst) : sem_read_rule [.str (ln 7 1), .int n] w = .ret (.tuple [.str (nm 7), fsD 1, laD 1, trD 1]) w := by kernel_rfl
theorem g_7_1 (a b : Option Ent) (n : Int) (w : Wst) : SG ⟨[a, b, some (.val (.int n)), some (.val (.str (ln 7 1)))], w⟩ = .ok (.str "r") ⟨[a, b, some (.val (.int n)), some (.val (.str (ln 7 1)))], w⟩ := by kernel_rfl
theorem r_7_2 (n : Int) (w : Wst) : sem_read_rule [.str (ln 7 2), .int n] w = .ret (.tuple [.str (nm 7), fsD 2, laD 2, trD 2]) w := by kernel_rfl
theorem g_7_2 (a b : Option Ent) (n : Int) (w : Wst) : SG ⟨[a, b, some (.val (.int n)), some (.val (.str (ln 7 2)))], w⟩ = .ok (.str "r") ⟨[a, b, some (.val (.int n)), some (.val (.str (ln 7 2)))], w⟩ := by kernel_rfl
theorem r_7_3 (n : Int) (w : Wst) : sem_read_rule [.str (ln 7 3), .int n] w = .ret (.tuple [.str (nm 7), fsD 3, laD 3, trD 3]) w := by kernel_rfl
theorem g_7_3 (a b : Option Ent) (n : Int) (w : Wst) : SG ⟨[a, b, some (.val (.int n)), some (.val (.str (ln 7 3)))], w⟩ = .ok (.str "r") ⟨[a, b, some (.val (.int n)), some (.val (.str (ln 7 3)))], w⟩ := by kernel_rfl
theorem r_7_4 (n : Int) (w : Wst) : sem_read_rule [.str (ln 7 4), .int n] w = .ret (.tuple [.str (nm 7), fsD 4, laD 4, trD 4]) w := by kernel_rfl
theorem g_7_4 (a b : Option Ent) (n : Int) (w : Wst) : SG ⟨[a, b, some (.val (.int n)), some (.val (.str (ln 7 4)))], w⟩ = .ok (.str "r") ⟨[a, b, some (.val (.int n)), some (.val (.str (ln 7 4)))], w⟩ := by kernel_rfl
theorem r_7_5 (n : Int) (w : Wst) : sem_read_rule [.str (ln 7 5), .int n] w = .ret (.tuple [.str (nm 7), fsD 5, laD 5, trD 5]) w := by kernel_rfl
theorem g_7_5 (a b : Option Ent) (n : Int) (w : Wst) : SG ⟨[a, b, some (.val (.int n)), some (.val (.str (ln 7 5)))], w⟩ = .ok (.str "r") ⟨[a, b, some (.val (.int n)), some (.val (.str (ln 7 5)))], w⟩ := by kernel_rfl
theorem r_7_6 (n : Int) (w : Wst) : sem_read_rule [.str (ln 7 6), .int n] w = .ret (.tuple [.str (nm 7), fsD 6, laD 6, trD 6]) w := by kernel_rfl
theorem g_7_6 (a b : Option Ent) (n : Int) (w : Wst) : SG ⟨[a, b, some (.val (.int n)), some (.val (.str (ln 7 6)))], w⟩ = .ok (.str "r") ⟨[a, b, some (.val (.int n)), some (.val (.str (ln 7 6)))], w⟩ := by kernel_rfl
theorem r_7_7 (n : Int) (w : Wst) : sem_read_rule [.str (ln 7 7), .int n] w = .ret (.tuple [.str (nm 7), fsD 7, laD 7, trD 7]) w := by kernel_rfl
theorem g_7_7 (a b : Option Ent) (n : Int) (w : Wst) : SG ⟨[a, b, some (.val (.int n)), some (.val (.str (ln 7 7)))], w⟩ = .ok (.str "r") ⟨[a, b, some (.val (.int n)), some (.val (.str (ln 7 7)))], w⟩ := by kernel_rfl
theorem r_7_8 (n : Int) (w : Wst) : sem_read_rule [.str (ln 7 8), .int n] w = .ret (.tuple [.str (nm 7), fsD 8, laD 8, trD 8]) w := by kernel_rfl
theorem g_7_8 (a b : Option Ent) (n : Int) (w : Wst) : SG ⟨[a, b, some (.val (.int n)), some (.val (.str (ln 7 8)))], w⟩ = .ok (.str "r") ⟨[a, b, some (.val (.int n)), some (.val (.str (ln 7 8)))], w⟩ := by kernel_rfl
theorem r_7_9 (n : Int) (w : Wst) : sem_read_rule [.str (ln 7 9), .int n] w = .ret (.tuple [.str (nm 7), fsD 9, laD 9, trD 9]) w := by kernel_rfl
theorem g_7_9 (a b : Option Ent) (n : Int) (w : Wst) : SG ⟨[a, b, some (.val (.int n)), some (.val (.str (ln 7 9)))], w⟩ = .ok (.str "r") ⟨[a, b, some (.val (.int n)), some (.val (.str (ln 7 9)))], w⟩ := by kernel_rfl
theorem r_8_0 (n : Int) (w : Wst) : sem_read_rule [.str (ln 8 0), .int n] w = .ret (.tuple [.str (nm 8), fsD 0, laD 0, trD 0]) w := by kernel_rfl
theorem g_8_0 (a b : Option Ent) (n : Int) (w : Wst) : SG ⟨[a, b, some (.val (.int n)), some (.val (.str (ln 8 0)))], w⟩ = .ok (.str "r") ⟨[a, b, some (.val (.int n)), some (.val (.str (ln 8 0)))], w⟩ := by kernel_rfl
theorem r_8_1 (n : Int) (w : Wst) : sem_read_rule [.str (ln 8 1), .int n] w = .ret (.tuple [.str (nm 8), fsD 1, laD 1, trD 1]) w := by kernel_rfl
theorem g_8_1 (a b : Option Ent) (n : Int) (w : Wst) : SG ⟨[a, b, some (.val (.int n)), some (.val (.str (ln 8 1)))], w⟩ = .ok (.str "r") ⟨[a, b, some (.val (.int n)), some (.val (.str (ln 8 1)))], w⟩ := by kernel_rfl
theorem r_8_2 (n : Int) (w : Wst) : sem_read_rule [.str (ln 8 2), .int n] w = .ret (.tuple [.str (nm 8), fsD 2, laD 2, trD 2]) w := by kernel_rfl
theorem g_8_2 (a b : Option Ent) (n : Int) (w : Wst) : SG ⟨[a, b, some (.val (.int n)), some (.val (.str (ln 8 2)))], w⟩ = .ok (.str "r") ⟨[a, b, some (.val (.int n)), some (.val (.str (ln 8 2)))], w⟩ := by kernel_rfl
theorem r_8_3 (n : Int) (w : Wst) : sem_read_rule [.str (ln 8 3), .int n] w = .ret (.tuple [.str (nm 8), fsD 3, laD 3, trD 3]) w := by kernel_rfl
theorem g_8_3 (a b : Option Ent) (n : Int) (w : Wst) : SG ⟨[a, b, some (.val (.int n)), some (.val (.str (ln 8 3)))], w⟩ = .ok (.str "r") ⟨[a, b, some (.val (.int n)), some (.val (.str (ln 8 3)))], w⟩ := by kernel_rfl
theorem r_8_4 (n : Int) (w : Wst) : sem_read_rule [.str (ln 8 4), .int n] w = .ret (.tuple [.str (nm 8), fsD 4, laD 4, trD 4]) w := by kernel_rfl
theorem g_8_4 (a b : Option Ent) (n : Int) (w : Wst) : SG ⟨[a, b, some (.val (.int n)), some (.val (.str (ln 8 4)))], w⟩ = .ok (.str "r") ⟨[a, b, some (.val (.int n)), some (.val (.str (ln 8 4)))], w⟩ := by kernel_rfl
theorem r_8_5 (n : Int) (w : Wst) : sem_read_rule [.str (ln 8 5), .int n] w = .ret (.tuple [.str (nm 8), fsD 5, laD 5, trD 5]) w := by kernel_rfl
theorem g_8_5 (a b : Option Ent) (n : Int) (w : Wst) : SG ⟨[a, b, some (.val (.int n)), some (.val (.str (ln 8 5)))], w⟩ = .ok (.str "r") ⟨[a, b, some (.val (.int n)), some (.val (.str (ln 8 5)))], w⟩ := by kernel_rfl
theorem r_8_6 (n : Int) (w : Wst) : sem_read_rule [.str (ln 8 6), .int n] w = .ret (.tuple [.str (nm 8), fsD 6, laD 6, trD 6]) w := by kernel_rfl
theorem g_8_6 (a b : Option Ent) (n : Int) (w : Wst) : SG ⟨[a, b, some (.val (.int n)), some (.val (.str (ln 8 6)))], w⟩ = .ok (.str "r") ⟨[a, b, some (.val (.int n)), some (.val (.str (ln 8 6)))], w⟩ := by kernel_rfl
theorem r_8_7 (n : Int) (w : Wst) : sem_read_rule [.str (ln 8 7), .int n] w = .ret (.tuple [.str (nm 8), fsD 7, laD 7, trD 7]) w := by kernel_rfl
theorem g_8_7 (a b : Option Ent) (n : Int) (w : Wst) : SG ⟨[a, b, some (.val (.int n)), some (.val (.str (ln 8 7)))], w⟩ = .ok (.str "r") ⟨[a, b, some (.val (.int n)), some (.val (.str (ln 8 7)))], w⟩ := by kernel_rfl
theorem r_8_8 (n : Int) (w : Wst) : sem_read_rule [.str (ln 8 8), .int n] w = .ret (.tuple [.str (nm 8), fsD 8, laD 8, trD 8]) w := by kernel_rfl
theorem g_8_8 (a b : Option Ent) (n : Int) (w : Wst) : SG ⟨[a, b, some (.val (.int n)), some (.val (.str (ln 8 8)))], w⟩ = .ok (.str "r") ⟨[a, b, some (.val (.int n)), some (.val (.str (ln 8 8)))], w⟩ := by kernel_rfl
theorem r_8_9 (n : Int) (w : Wst) : sem_read_rule [.str (ln 8 9), .int n] w = .ret (.tuple [.str (nm 8), fsD 9, laD 9, trD 9]) w := by kernel_rfl
theorem g_8_9 (a b : Option Ent) (n : Int) (w : Wst) : SG ⟨[a, b, some (.val (.int n)), some (.val (.str (ln 8 9)))], w⟩ = .ok (.str "r") ⟨[a, b, some (.val (.int n)), some (.val (.str (ln 8 9)))], w⟩ := by kernel_rfl
theorem r_9_0 (n : Int) (w : Wst) : sem_read_rule [.str (ln 9 0), .int n] w = .ret (.tuple [.str (nm 9), fsD 0, laD 0, trD 0]) w := by kernel_rfl
theorem g_9_0 (a b : Option Ent) (n : Int) (w : Wst) : SG ⟨[a, b, some (.val (.int n)), some (.val (.str (ln 9 0)))], w⟩ = .ok (.str "r") ⟨[a, b, some (.val (.int n)), some (.val (.str (ln 9 0)))], w⟩ := by kernel_rfl
theorem r_9_1 (n : Int) (w : Wst) : sem_read_rule [.str (ln 9 1), .int n] w = .ret (.tuple [.str (nm 9), fsD 1, laD 1, trD 1]) w := by kernel_rfl
theorem g_9_1 (a b : Option Ent) (n : Int) (w : Wst) : SG ⟨[a, b, some (.val (.int n)), some (.val (.str (ln 9 1)))], w⟩ = .ok (.str "r") ⟨[a, b, some (.val (.int n)), some (.val (.str (ln 9 1)))], w⟩ := by kernel_rfl
theorem r_9_2 (n : Int) (w : Wst) : sem_read_rule [.str (ln 9 2), .int n] w = .ret (.tuple [.str (nm 9), fsD 2, laD 2, trD 2]) w := by kernel_rfl
theorem g_9_2 (a b : Option Ent) (n : Int) (w : Wst) : SG ⟨[a, b, some (.val (.int n)), some (.val (.str (ln 9 2)))], w⟩ = .ok (.str "r") ⟨[a, b, some (.val (.int n)), some (.val (.str (ln 9 2)))], w⟩ := by kernel_rfl
theorem r_9_3 (n : Int) (w : Wst) : sem_read_rule [.str (ln 9 3), .int n] w = .ret (.tuple [.str (nm 9), fsD 3, laD 3, trD 3]) w := by kernel_rfl
theorem g_9_3 (a b : Option Ent) (n : Int) (w : Wst) : SG ⟨[a, b, some (.val (.int n)), some (.val (.str (ln 9 3)))], w⟩ = .ok (.str "r") ⟨[a, b, some (.val (.int n)), some (.val (.str (ln 9 3)))], w⟩ := by kernel_rfl
theorem r_9_4 (n : Int) (w : Wst) : sem_read_rule [.str (ln 9 4), .int n] w = .ret (.tuple [.str (nm 9), fsD 4, laD 4, trD 4]) w := by kernel_rfl
theorem g_9_4 (a b : Option Ent) (n : Int) (w : Wst) : SG ⟨[a, b, some (.val (.int n)), some (.val (.str (ln 9 4)))], w⟩ = .ok (.str "r") ⟨[a, b, some (.val (.int n)), some (.val (.str (ln 9 4)))], w⟩ := by kernel_rfl
theorem r_9_5 (n : Int) (w : Wst) : sem_read_rule [.str (ln 9 5), .int n] w = .ret (.tuple [.str (nm 9), fsD 5, laD 5, trD 5]) w := by kernel_rfl
theorem g_9_5 (a b : Option Ent) (n : Int) (w : Wst) : SG ⟨[a, b, some (.val (.int n)), some (.val (.str (ln 9 5)))], w⟩ = .ok (.str "r") ⟨[a, b, some (.val (.int n)), some (.val (.str (ln 9 5)))], w⟩ := by kernel_rfl
theorem r_9_6 (n : Int) (w : Wst) : sem_read_rule [.str (ln 9 6), .int n] w = .ret (.tuple [.str (nm 9), fsD 6, laD 6, trD 6]) w := by kernel_rfl
theorem g_9_6 (a b : Option Ent) (n : Int) (w : Wst) : SG ⟨[a, b, some (.val (.int n)), some (.val (.str (ln 9 6)))], w⟩ = .ok (.str "r") ⟨[a, b, some (.val (.int n)), some (.val (.str (ln 9 6)))], w⟩ := by kernel_rfl
theorem r_9_7 (n : Int) (w : Wst) : sem_read_rule [.str (ln 9 7), .int n] w = .ret (.tuple [.str (nm 9), fsD 7, laD 7, trD 7]) w := by kernel_rfl
theorem g_9_7 (a b : Option Ent) (n : Int) (w : Wst) : SG ⟨[a, b, some (.val (.int n)), some (.val (.str (ln 9 7)))], w⟩ = .ok (.str "r") ⟨[a, b, some (.val (.int n)), some (.val (.str (ln 9 7)))], w⟩ := by kernel_rfl
theorem r_9_8 (n : Int) (w : Wst) : sem_read_rule [.str (ln 9 8), .int n] w = .ret (.tuple [.str (nm 9), fsD 8, laD 8, trD 8]) w := by kernel_rfl
theorem g_9_8 (a b : Option Ent) (n : Int) (w : Wst) : SG ⟨[a, b, some (.val (.int n)), some (.val (.str (ln 9 8)))], w⟩ = .ok (.str "r") ⟨[a, b, some (.val (.int n)), some (.val (.str (ln 9 8)))], w⟩ := by kernel_rfl
theorem r_9_9 (n : Int) (w : Wst) : sem_read_rule [.str (ln 9 9), .int n] w = .ret (.tuple [.str (nm 9), fsD 9, laD 9, trD 9]) w := by kernel_rfl
theorem g_9_9 (a b : Option Ent) (n : Int) (w : Wst) : SG ⟨[a, b, some (.val (.int n)), some (.val (.str (ln 9 9)))], w⟩ = .ok (.str "r") ⟨[a, b, some (.val (.int n)), some (.val (.str (ln 9 9)))], w⟩ := by kernel_rfl
theorem e_0 (w : Wst) : sem_has_empty [trD 0] w = .ret (.bool (bad 0)) w := by kernel_rfl
theorem e_1 (w : Wst) : sem_has_empty [trD 1] w = .ret (.bool (bad 1)) w := by kernel_rfl
theorem e_2 (w : Wst) : sem_has_empty [trD 2] w = .ret (.bool (bad 2)) w := by kernel_rfl
theorem e_3 (w : Wst) : sem_has_empty [trD 3] w = .ret (.bool (bad 3)) w := by kernel_rfl
theorem e_4 (w : Wst) : sem_has_empty [trD 4] w = .ret (.bool (bad 4)) w := by kernel_rfl
theorem e_5 (w : Wst) : sem_has_empty [trD 5] w = .ret (.bool (bad 5)) w := by kernel_rfl
theorem e_6 (w : Wst) : sem_has_empty [trD 6] w = .ret (.bool (bad 6)) w := by kernel_rfl
theorem e_7 (w : Wst) : sem_has_empty [trD 7] w = .ret (.bool (bad 7)) w := by kernel_rfl
theorem e_8 (w : Wst) : sem_has_empty [trD 8] w = .ret (.bool (bad 8)) w := by kernel_rfl
theorem e_9 (w : Wst) : sem_has_empty [trD 9] w = .ret (.bool (bad 9)) w := by kernel_rfl
theorem rule_x (n : Int) (w : Wst) : sem_read_rule [.str "x: (", .int n] w = .exc 0 [.int n, .int 5] w := by kernel_rfl
theorem sg_x (a b : Option Ent) (n : Int) (w : Wst) : SG ⟨[a, b, some (.val (.int n)), some (.val (.str "x: ("))], w⟩ = .ok (.str "x") ⟨[a, b, some (.val (.int n)), some (.val (.str "x: ("))], w⟩ := by kernel_rfl
theorem sg_0 (a b : Option Ent) (n : Int) (w : Wst) : SG ⟨[a, b, some (.val (.int n)), some (.val (.str ""))], w⟩ = .ok (.str "") ⟨[a, b, some (.val (.int n)), some (.val (.str ""))], w⟩ := by kernel_rfl
theorem rule_ok : ∀ (i j : Nat), i < 10 → j < 10 → ∀ (n : Int) (w : Wst), sem_read_rule [.str (ln i j), .int n] w = .ret (.tuple [.str (nm i), fsD j, laD j, trD j]) w
  | 0, 0, _, _ => r_0_0
  | 0, 1, _, _ => r_0_1
  | 0, 2, _, _ => r_0_2
  | 0, 3, _, _ => r_0_3
  | 0, 4, _, _ => r_0_4
  | 0, 5, _, _ => r_0_5
  | 0, 6, _, _ => r_0_6
  | 0, 7, _, _ => r_0_7
  | 0, 8, _, _ => r_0_8
  | 0, 9, _, _ => r_0_9
  | 1, 0, _, _ => r_1_0
  | 1, 1, _, _ => r_1_1
  | 1, 2, _, _ => r_1_2
  | 1, 3, _, _ => r_1_3
  | 1, 4, _, _ => r_1_4
  | 1, 5, _, _ => r_1_5
  | 1, 6, _, _ => r_1_6
  | 1, 7, _, _ => r_1_7
  | 1, 8, _, _ => r_1_8
  | 1, 9, _, _ => r_1_9
  | 2, 0, _, _ => r_2_0
  | 2, 1, _, _ => r_2_1
  | 2, 2, _, _ => r_2_2
  | 2, 3, _, _ => r_2_3
  | 2, 4, _, _ => r_2_4
  | 2, 5, _, _ => r_2_5
  | 2, 6, _, _ => r_2_6
  | 2, 7, _, _ => r_2_7
  | 2, 8, _, _ => r_2_8
  | 2, 9, _, _ => r_2_9
  | 3, 0, _, _ => r_3_0
  | 3, 1, _, _ => r_3_1
  | 3, 2, _, _ => r_3_2
  | 3, 3, _, _ => r_3_3
  | 3, 4, _, _ => r_3_4
  | 3, 5, _, _ => r_3_5
  | 3, 6, _, _ => r_3_6
  | 3, 7, _, _ => r_3_7
  | 3, 8, _, _ => r_3_8
  | 3, 9, _, _ => r_3_9
  | 4, 0, _, _ => r_4_0
  | 4, 1, _, _ => r_4_1
  | 4, 2, _, _ => r_4_2
  | 4, 3, _, _ => r_4_3
  | 4, 4, _, _ => r_4_4
  | 4, 5, _, _ => r_4_5
  | 4, 6, _, _ => r_4_6
  | 4, 7, _, _ => r_4_7
  | 4, 8, _, _ => r_4_8
  | 4, 9, _, _ => r_4_9
  | 5, 0, _, _ => r_5_0
  | 5, 1, _, _ => r_5_1
  | 5, 2, _, _ => r_5_2
  | 5, 3, _, _ => r_5_3
  | 5, 4, _, _ => r_5_4
  | 5, 5, _, _ => r_5_5
  | 5, 6, _, _ => r_5_6
  | 5, 7, _, _ => r_5_7
  | 5, 8, _, _ => r_5_8
  | 5, 9, _, _ => r_5_9
  | 6, 0, _, _ => r_6_0
  | 6, 1, _, _ => r_6_1
  | 6, 2, _, _ => r_6_2
  | 6, 3, _, _ => r_6_3
  | 6, 4, _, _ => r_6_4
  | 6, 5, _, _ => r_6_5
  | 6, 6, _, _ => r_6_6
  | 6, 7, _, _ => r_6_7
  | 6, 8, _, _ => r_6_8
  | 6, 9, _, _ => r_6_9
  | 7, 0, _, _ => r_7_0
  | 7, 1, _, _ => r_7_1
  | 7, 2, _, _ => r_7_2
  | 7, 3, _, _ => r_7_3
  | 7, 4, _, _ => r_7_4
  | 7, 5, _, _ => r_7_5
  | 7, 6, _, _ => r_7_6
  | 7, 7, _, _ => r_7_7
  | 7, 8, _, _ => r_7_8
  | 7, 9, _, _ => r_7_9
  | 8, 0, _, _ => r_8_0
  | 8, 1, _, _ => r_8_1
  | 8, 2, _, _ => r_8_2
  | 8, 3, _, _ => r_8_3
  | 8, 4, _, _ => r_8_4
  | 8, 5, _, _ => r_8_5
  | 8, 6, _, _ => r_8_6
  | 8, 7, _, _ => r_8_7
  | 8, 8, _, _ => r_8_8
  | 8, 9, _, _ => r_8_9
  | 9, 0, _, _ => r_9_0
  | 9, 1, _, _ => r_9_1
  | 9, 2, _, _ => r_9_2
  | 9, 3, _, _ => r_9_3
  | 9, 4, _, _ => r_9_4
  | 9, 5, _, _ => r_9_5
  | 9, 6, _, _ => r_9_6
  | 9, 7, _, _ => r_9_7
  | 9, 8, _, _ => r_9_8
  | 9, 9, _, _ => r_9_9
  | i + 10, _, h, _ => absurd h (by omega)
  | _, j + 10, _, h => absurd h (by omega)
theorem sg_ok : ∀ (i j : Nat), i < 10 → j < 10 → ∀ (a b : Option Ent) (n : Int) (w : Wst), SG ⟨[a, b, some (.val (.int n)), some (.val (.str (ln i j)))], w⟩ = .ok (.str "r") ⟨[a, b, some (.val (.int n)), some (.val (.str (ln i j)))], w⟩
  | 0, 0, _, _ => g_0_0
  | 0, 1, _, _ => g_0_1
  | 0, 2, _, _ => g_0_2
  | 0, 3, _, _ => g_0_3
  | 0, 4, _, _ => g_0_4
  | 0, 5, _, _ => g_0_5
  | 0, 6, _, _ => g_0_6
  | 0, 7, _, _ => g_0_7
  | 0, 8, _, _ => g_0_8
  | 0, 9, _, _ => g_0_9
  | 1, 0, _, _ => g_1_0
  | 1, 1, _, _ => g_1_1
  | 1, 2, _, _ => g_1_2
  | 1, 3, _, _ => g_1_3
  | 1, 4, _, _ => g_1_4
  | 1, 5, _, _ => g_1_5
  | 1, 6, _, _ => g_1_6
  | 1, 7, _, _ => g_1_7
  | 1, 8, _, _ => g_1_8
  | 1, 9, _, _ => g_1_9
  | 2, 0, _, _ => g_2_0
  | 2, 1, _, _ => g_2_1
  | 2, 2, _, _ => g_2_2
  | 2, 3, _, _ => g_2_3
  | 2, 4, _, _ => g_2_4
  | 2, 5, _, _ => g_2_5
  | 2, 6, _, _ => g_2_6
  | 2, 7, _, _ => g_2_7
  | 2, 8, _, _ => g_2_8
  | 2, 9, _, _ => g_2_9
  | 3, 0, _, _ => g_3_0
  | 3, 1, _, _ => g_3_1
  | 3, 2, _, _ => g_3_2
  | 3, 3, _, _ => g_3_3
  | 3, 4, _, _ => g_3_4
  | 3, 5, _, _ => g_3_5
  | 3, 6, _, _ => g_3_6
  | 3, 7, _, _ => g_3_7
  | 3, 8, _, _ => g_3_8
  | 3, 9, _, _ => g_3_9
  | 4, 0, _, _ => g_4_0
  | 4, 1, _, _ => g_4_1
  | 4, 2, _, _ => g_4_2
  | 4, 3, _, _ => g_4_3
  | 4, 4, _, _ => g_4_4
  | 4, 5, _, _ => g_4_5
  | 4, 6, _, _ => g_4_6
  | 4, 7, _, _ => g_4_7
  | 4, 8, _, _ => g_4_8
  | 4, 9, _, _ => g_4_9
  | 5, 0, _, _ => g_5_0
  | 5, 1, _, _ => g_5_1
  | 5, 2, _, _ => g_5_2
  | 5, 3, _, _ => g_5_3
  | 5, 4, _, _ => g_5_4
  | 5, 5, _, _ => g_5_5
  | 5, 6, _, _ => g_5_6
  | 5, 7, _, _ => g_5_7
  | 5, 8, _, _ => g_5_8
  | 5, 9, _, _ => g_5_9
  | 6, 0, _, _ => g_6_0
  | 6, 1, _, _ => g_6_1
  | 6, 2, _, _ => g_6_2
  | 6, 3, _, _ => g_6_3
  | 6, 4, _, _ => g_6_4
  | 6, 5, _, _ => g_6_5
  | 6, 6, _, _ => g_6_6
  | 6, 7, _, _ => g_6_7
  | 6, 8, _, _ => g_6_8
  | 6, 9, _, _ => g_6_9
  | 7, 0, _, _ => g_7_0
  | 7, 1, _, _ => g_7_1
  | 7, 2, _, _ => g_7_2
  | 7, 3, _, _ => g_7_3
  | 7, 4, _, _ => g_7_4
  | 7, 5, _, _ => g_7_5
  | 7, 6, _, _ => g_7_6
  | 7, 7, _, _ => g_7_7
  | 7, 8, _, _ => g_7_8
  | 7, 9, _, _ => g_7_9
  | 8, 0, _, _ => g_8_0
  | 8, 1, _, _ => g_8_1
  | 8, 2, _, _ => g_8_2
  | 8, 3, _, _ => g_8_3
  | 8, 4, _, _ => g_8_4
  | 8, 5, _, _ => g_8_5
  | 8, 6, _, _ => g_8_6
  | 8, 7, _, _ => g_8_7
  | 8, 8, _, _ => g_8_8
  | 8, 9, _, _ => g_8_9
  | 9, 0, _, _ => g_9_0
  | 9, 1, _, _ => g_9_1
  | 9, 2, _, _ => g_9_2
  | 9, 3, _, _ => g_9_3
  | 9, 4, _, _ => g_9_4
  | 9, 5, _, _ => g_9_5
  | 9, 6, _, _ => g_9_6
  | 9, 7, _, _ => g_9_7
  | 9, 8, _, _ => g_9_8
  | 9, 9, _, _ => g_9_9
  | i + 10, _, h, _ => absurd h (by omega)
  | _, j + 10, _, h => absurd h (by omega)
theorem em_ok : ∀ (j : Nat), j < 10 → ∀ w : Wst, sem_has_empty [trD j] w = .ret (.bool (bad j)) w
  | 0, _ => e_0
  | 1, _ => e_1
  | 2, _ => e_2
  | 3, _ => e_3
  | 4, _ => e_4
  | 5, _ => e_5
  | 6, _ => e_6
  | 7, _ => e_7
  | 8, _ => e_8
  | 9, _ => e_9
  | j + 10, h => absurd h (by omega)
end Lk10
namespace Lk10
open PySem PySem.Spec L2 PD
open PyProof.Rows hiding St
variable [WI]
/-! ### the lines read one behind another -/
/-- a line: a right one, or the one with the fault -/
abbrev Ln := Option (Nat × Nat)
def txt : Ln → Str
  | some p => ln p.1 p.2
  | none => "x: ("
def okP (p : Nat × Nat) : Prop := p.1 < 10 ∧ p.2 < 10
def okL (l : Ln) : Prop := ∀ p, l = some p → okP p
def rl (p : Nat × Nat) : D := .tuple [.str (nm p.1), fsD p.2, laD p.2, trD p.2]
def rdB : FO := sIf (tVal (fBin dNe SG (fC (.str "")))) (sApp 1 (fCall 2 sem_read_rule (fCons (fSlot 3) (fCons (fSlot 2) fNil)))) sNil
def rdG : FG := gTp 2 (gCo (gNm 2) (gCo (gNm 3) gNo))
abbrev rdS (T : D) (fs : List D) (w : Wst) : S := ⟨[some (.val T), some (.own fs), none, none], w⟩
theorem read_book_eq : f_read_book = sSeq (sIf (fNot (tVal (fB1 (dIsi "str") (fSlot 0)))) (sRaise 0 2 (fCons (fC (.int 0)) (fCons (fC (.int 0)) fNil))) sNil)
    (sSeq (sSetO 1 (fLim fNil))
    (sSeq (sFor [2, 3] (fEnumK (fFz (fSplit (fSlot 0) (fC (.str "\n")))) (fC (.int 1))) rdG rdB)
    (sSeq (sDrp (fCall 1 sem_check_book (fCons (fSlot 1) fNil)))
    (sRet (fB1 dTup (fSlot 1)))))) := rfl
/-- the lines up to the first with a fault -/
def goR : Int → List (Nat × Nat) → List Ln → (List (Nat × Nat)) ⊕ Int
  | _, acc, [] => .inl acc
  | n, acc, some p :: r => goR (n + 1) (acc ++ [p]) r
  | n, _, none :: _ => .inr n
theorem ne_r : dNe (.str "r") (.str "") = some (.bool true) := by kernel_rfl
theorem ne_x : dNe (.str "x") (.str "") = some (.bool true) := by kernel_rfl
theorem ne_0 : dNe (.str "") (.str "") = some (.bool false) := by kernel_rfl
theorem rdB_ok {p : Nat × Nat} (h : okP p) (T : D) (fs : List D) (hl : fs.length < 1000) (n : Int) (w : Wst) :
    rdB ⟨[some (.val T), some (.own fs), some (.val (.int n)), some (.val (.str (ln p.1 p.2)))], w⟩ = .nx ⟨[some (.val T), some (.own (fs ++ [rl p])), some (.val (.int n)), some (.val (.str (ln p.1 p.2)))], w⟩ := by
  have a := sg_ok p.1 p.2 h.1 h.2 (some (.val T)) (some (.own fs)) n w
  have b := rule_ok p.1 p.2 h.1 h.2 n w
  have sl : fs.length < sizeLine := by rw [sizeLine_eq]; omega
  unfold rdB rl
  generalize SG = SGx at *
  generalize ln p.1 p.2 = L at *
  generalize nm p.1 = N at *
  generalize fsD p.2 = F at *
  generalize laD p.2 = La at *
  generalize trD p.2 = Tr at *
  simp -implicitDefEqProofs [a, b, ne_r, sl]
theorem rdB_no (T : D) (fs : List D) (n : Int) (w : Wst) : rdB ⟨[some (.val T), some (.own fs), some (.val (.int n)), some (.val (.str "x: ("))], w⟩ = .exc 0 [.int n, .int 5] ⟨[some (.val T), some (.own fs), some (.val (.int n)), some (.val (.str "x: ("))], w⟩ := by
  have a := sg_x (some (.val T)) (some (.own fs)) n w
  have b := rule_x n w
  unfold rdB
  generalize SG = SGx at *
  generalize ("x: (" : Str) = L at *
  simp -implicitDefEqProofs [a, b, ne_x]
theorem rd_loop (T : D) (w : Wst) : ∀ (xs : List Ln) (n : Int) (acc : List (Nat × Nat)), (∀ l ∈ xs, okL l) → acc.length + xs.length < 1000 →
    match goR n acc xs with
    | .inl a => forD [2, 3] rdG rdB (enumFrom n (xs.map fun l => .str (txt l))) (rdS T (acc.map rl) w) = .nx (rdS T (a.map rl) w)
    | .inr m => ∃ s', forD [2, 3] rdG rdB (enumFrom n (xs.map fun l => .str (txt l))) (rdS T (acc.map rl) w) = .exc 0 [.int m, .int 5] s' ∧ s'.w = w
  | [], n, acc, _, _ => rfl
  | none :: r, n, acc, h, hl => by
    refine ⟨⟨[some (.val T), some (.own (acc.map rl)), some (.val (.int n)), some (.val (.str "x: ("))], w⟩, ?_, rfl⟩
    show (match rdB ⟨[some (.val T), some (.own (acc.map rl)), some (.val (.int n)), some (.val (.str "x: ("))], w⟩ with
      | .nx s2 => forD [2, 3] rdG rdB (enumFrom (n + 1) (r.map fun l => .str (txt l))) (kill [2, 3] s2)
      | .ct s2 => forD [2, 3] rdG rdB (enumFrom (n + 1) (r.map fun l => .str (txt l))) (kill [2, 3] s2)
      | .bk s2 => .nx (kill [2, 3] s2)
      | o => o) = _
    rw [rdB_no]
  | some p :: r, n, acc, h, hl => by
    have hp := h (some p) List.mem_cons_self p rfl
    have hl' : acc.length < 1000 := by simp at hl; omega
    have ih := rd_loop T w r (n + 1) (acc ++ [p]) (fun l hm => h l (List.mem_cons_of_mem _ hm)) (by simp at hl ⊢; omega)
    have step : forD [2, 3] rdG rdB (enumFrom n ((some p :: r).map fun l => .str (txt l))) (rdS T (acc.map rl) w) = forD [2, 3] rdG rdB (enumFrom (n + 1) (r.map fun l => .str (txt l))) (rdS T ((acc ++ [p]).map rl) w) := by
      show (match rdB ⟨[some (.val T), some (.own (acc.map rl)), some (.val (.int n)), some (.val (.str (ln p.1 p.2)))], w⟩ with
        | .nx s2 => forD [2, 3] rdG rdB (enumFrom (n + 1) (r.map fun l => .str (txt l))) (kill [2, 3] s2)
        | .ct s2 => forD [2, 3] rdG rdB (enumFrom (n + 1) (r.map fun l => .str (txt l))) (kill [2, 3] s2)
        | .bk s2 => .nx (kill [2, 3] s2)
        | o => o) = _
      rw [rdB_ok hp T _ (by rw [List.length_map]; exact hl')]
      rw [List.map_append]
      rfl
    rw [step]
    exact ih
/-! ### the book looked at -/
def ckB : FO := sSeq (sIf (fOr (tVal (fDin false 1 (fSlot 3))) (fOr (tVal (fBin dGe (fSlot 2) (fC c_MOST_RULES))) (tVal (fCall 1 sem_has_empty (fCons (fSlot 6) fNil))))) (sRaise 1 1 (fCons (fSlot 3) fNil)) sNil)
    (sSetD 1 (fC (.bool true)) (fSlot 3))
def ckG : FG := gTp 2 (gCo (gNm 2) (gCo (gTp 4 (gCo (gNm 3) (gCo (gNm 4) (gCo (gNm 5) (gCo (gNm 6) gNo))))) gNo))
theorem check_book_eq : f_check_book = sSeq (sSetN 1 fDic0) (sFor [2, 3, 4, 5, 6] (fEnum (fSlot 0)) ckG ckB) := rfl
/-- the first rule with a fault -/
def goC : Nat → List Str → List (Nat × Nat) → Option Str
  | _, _, [] => none
  | k, seen, p :: r => if nm p.1 ∈ seen ∨ 8 ≤ k ∨ bad p.2 = true then some (nm p.1) else goC (k + 1) (seen ++ [nm p.1]) r
end Lk10
namespace Lk10
open PySem PySem.Spec L2 PD
open PyProof.Rows hiding St
variable [WI]
def dinE (neg : Bool) (o : Option D) (k : Option Key) (s : S) : R D := match o, k with
  | some (.dict es), some k => R.of ((kesD es).map fun m => .bool (neg ^^ (lkD m k).isSome)) s
  | _, _ => .bad
omit [WI] in
@[simp] theorem fDin_s (neg : Bool) (i : Nat) (f : FE) (s : S) : fDin neg i f s = (f s).bind fun d s => dinE neg (lkE s.ρ[i]?) (kD d) s := by
  unfold fDin dinE
  congr 1
@[simp] theorem dinE_dicD (neg : Bool) (m : List (Key × D)) (k : Key) (s : S) : dinE neg (some (dicD m)) (some k) s = .ok (.bool (neg ^^ (lkD m k).isSome)) s := by
  unfold dinE dicD
  dsimp only
  rw [kesD_dic]
  rfl
omit [WI] in
@[simp] theorem kD_str (x : Str) : kD (.str x) = some (.inr x) := rfl
omit [WI] in
@[simp] theorem sRaise_s (k n : Nat) (f : FA) (s : S) : sRaise k n f s = (f s).stm fun ds s => if ds.length = n then .exc k ds s else .bad := rfl
/-- the names seen -/
def esOf (seen : List Str) : List (Key × D) := seen.map fun x => (Sum.inr x, .bool true)
theorem lk_es (seen : List Str) (x : Str) : (lkD (esOf seen) (.inr x)).isSome = decide (x ∈ seen) := by
  unfold lkD esOf
  rw [Option.isSome_map]
  induction seen with
  | nil => rfl
  | cons y r ih =>
    rw [List.map_cons, List.find?_cons]
    by_cases h : y = x
    · subst h
      simp
    · have e : decide (((Sum.inr y : Key)) = Sum.inr x) = false := decide_eq_false fun z => h (Sum.inr.inj z)
      rw [show (decide ((((Sum.inr y : Key), PyData.bool true) : Key × D).1 = Sum.inr x)) = false from e]
      dsimp only
      rw [ih]
      have h' : x ≠ y := fun z => h z.symm
      simp [h']
theorem put_es {seen : List Str} {x : Str} (h : x ∉ seen) : putKD (esOf seen) (.inr x) (.bool true) = esOf (seen ++ [x]) := by
  have e : (esOf seen).any (fun p => decide (p.1 = Sum.inr x)) = false := by
    rw [List.any_eq_false]
    intro p hp
    obtain ⟨y, hy, rfl⟩ := List.mem_map.mp hp
    simp only [decide_eq_true_eq]
    exact fun z => h (Sum.inr.inj z ▸ hy)
  unfold putKD
  rw [e]
  simp [esOf]
theorem ckB_bad {p : Nat × Nat} (h : okP p) {k : Nat} {seen : List Str} (hc : nm p.1 ∈ seen ∨ 8 ≤ k ∨ bad p.2 = true) (T : D) (w : Wst) :
    ckB ⟨[some (.val T), some (.dic (esOf seen)), some (.val (.int (k : Int))), some (.val (.str (nm p.1))), some (.val (fsD p.2)), some (.val (laD p.2)), some (.val (trD p.2))], w⟩ = .exc 1 [.str (nm p.1)] ⟨[some (.val T), some (.dic (esOf seen)), some (.val (.int (k : Int))), some (.val (.str (nm p.1))), some (.val (fsD p.2)), some (.val (laD p.2)), some (.val (trD p.2))], w⟩ := by
  have a := em_ok p.2 h.2 w
  have b := lk_es seen (nm p.1)
  have c : c_MOST_RULES = .int 8 := rfl
  unfold ckB
  rw [c]
  generalize nm p.1 = N at *
  generalize fsD p.2 = F at *
  generalize laD p.2 = La at *
  generalize trD p.2 = Tr at *
  generalize bad p.2 = B at *
  generalize esOf seen = E at *
  by_cases h1 : N ∈ seen
  · simp -implicitDefEqProofs [b, h1]
  · by_cases h2 : 8 ≤ k
    · have h2' : (8 : Int) ≤ (k : Int) := by omega
      simp -implicitDefEqProofs [b, h1, h2']
    · have h2' : ¬ (8 : Int) ≤ (k : Int) := by omega
      have h3 : B = true := by rcases hc with z | z | z; exact absurd z h1; exact absurd z h2; exact z
      subst h3
      simp -implicitDefEqProofs [a, b, h1, h2']
theorem ckB_ok {p : Nat × Nat} (h : okP p) {k : Nat} {seen : List Str} (hl : seen.length < 1000) (hc : ¬ (nm p.1 ∈ seen ∨ 8 ≤ k ∨ bad p.2 = true)) (T : D) (w : Wst) :
    ckB ⟨[some (.val T), some (.dic (esOf seen)), some (.val (.int (k : Int))), some (.val (.str (nm p.1))), some (.val (fsD p.2)), some (.val (laD p.2)), some (.val (trD p.2))], w⟩ = .nx ⟨[some (.val T), some (.dic (esOf (seen ++ [nm p.1]))), some (.val (.int (k : Int))), some (.val (.str (nm p.1))), some (.val (fsD p.2)), some (.val (laD p.2)), some (.val (trD p.2))], w⟩ := by
  have a := em_ok p.2 h.2 w
  have b := lk_es seen (nm p.1)
  have c : c_MOST_RULES = .int 8 := rfl
  have h1 : nm p.1 ∉ seen := fun z => hc (.inl z)
  have h2' : ¬ (8 : Int) ≤ (k : Int) := fun z => hc (.inr (.inl (by omega)))
  have h3 : bad p.2 = false := by cases z : bad p.2 with | true => exact absurd (.inr (.inr z)) hc | false => rfl
  have pe := put_es h1
  have le : (esOf seen).length < sizeLine := by rw [sizeLine_eq, show (esOf seen).length = seen.length from List.length_map _]; omega
  rw [h3] at a
  unfold ckB
  rw [c]
  generalize nm p.1 = N at *
  generalize fsD p.2 = F at *
  generalize laD p.2 = La at *
  generalize trD p.2 = Tr at *
  generalize esOf (seen ++ [N]) = E2 at *
  generalize esOf seen = E at *
  simp -implicitDefEqProofs [a, b, h1, h2', pe, le]
abbrev ckS (T : D) (es : List (Key × D)) (w : Wst) : S := ⟨[some (.val T), some (.dic es), none, none, none, none, none], w⟩
theorem ck_loop (T : D) (w : Wst) : ∀ (xs : List (Nat × Nat)) (k : Nat) (seen : List Str), (∀ p ∈ xs, okP p) → seen.length + xs.length < 1000 →
    match goC k seen xs with
    | none => ∃ s', forD [2, 3, 4, 5, 6] ckG ckB (enumFrom (k : Int) (xs.map rl)) (ckS T (esOf seen) w) = .nx s' ∧ s'.w = w
    | some x => ∃ s', forD [2, 3, 4, 5, 6] ckG ckB (enumFrom (k : Int) (xs.map rl)) (ckS T (esOf seen) w) = .exc 1 [.str x] s' ∧ s'.w = w
  | [], k, seen, _, _ => ⟨_, rfl, rfl⟩
  | p :: r, k, seen, h, hl => by
    have hp := h p List.mem_cons_self
    have unf : forD [2, 3, 4, 5, 6] ckG ckB (enumFrom (k : Int) ((p :: r).map rl)) (ckS T (esOf seen) w) = (match ckB ⟨[some (.val T), some (.dic (esOf seen)), some (.val (.int (k : Int))), some (.val (.str (nm p.1))), some (.val (fsD p.2)), some (.val (laD p.2)), some (.val (trD p.2))], w⟩ with
      | .nx s2 => forD [2, 3, 4, 5, 6] ckG ckB (enumFrom ((k : Int) + 1) (r.map rl)) (kill [2, 3, 4, 5, 6] s2)
      | .ct s2 => forD [2, 3, 4, 5, 6] ckG ckB (enumFrom ((k : Int) + 1) (r.map rl)) (kill [2, 3, 4, 5, 6] s2)
      | .bk s2 => .nx (kill [2, 3, 4, 5, 6] s2)
      | o => o) := rfl
    by_cases hc : nm p.1 ∈ seen ∨ 8 ≤ k ∨ bad p.2 = true
    · have e : goC k seen (p :: r) = some (nm p.1) := if_pos hc
      rw [e]
      exact ⟨_, by rw [unf, ckB_bad hp hc], rfl⟩
    · have e : goC k seen (p :: r) = goC (k + 1) (seen ++ [nm p.1]) r := if_neg hc
      have ih := ck_loop T w r (k + 1) (seen ++ [nm p.1]) (fun q hq => h q (List.mem_cons_of_mem _ hq)) (by simp at hl ⊢; omega)
      have step : forD [2, 3, 4, 5, 6] ckG ckB (enumFrom (k : Int) ((p :: r).map rl)) (ckS T (esOf seen) w) = forD [2, 3, 4, 5, 6] ckG ckB (enumFrom ((k + 1 : Nat) : Int) (r.map rl)) (ckS T (esOf (seen ++ [nm p.1])) w) := by
        rw [unf, ckB_ok hp (by simp at hl; omega) hc]
        rfl
      rw [e, step]
      exact ih
theorem check_ok (xs : List (Nat × Nat)) (h : ∀ p ∈ xs, okP p) (hl : xs.length < 1000) (w : Wst) :
    sem_check_book [.list (xs.map rl)] w = match goC 0 [] xs with | none => .ret .none w | some x => .exc 1 [.str x] w := by
  have z := ck_loop (.list (xs.map rl)) w xs 0 [] h (by simpa using hl)
  unfold sem_check_book semOf
  rw [check_book_eq]
  have st : (sSeq (sSetN 1 fDic0) (sFor [2, 3, 4, 5, 6] (fEnum (fSlot 0)) ckG ckB)) (startS 7 false [.list (xs.map rl)] w) = forD [2, 3, 4, 5, 6] ckG ckB (enumFrom ((0 : Nat) : Int) (xs.map rl)) (ckS (.list (xs.map rl)) (esOf []) w) := rfl
  rw [st]
  cases e : goC 0 [] xs with
  | none =>
    rw [e] at z
    obtain ⟨s', z1, z2⟩ := z
    rw [z1]
    show FR.ret .none s'.w = _
    rw [z2]
  | some x =>
    rw [e] at z
    obtain ⟨s', z1, z2⟩ := z
    rw [z1]
    show FR.exc 1 [.str x] s'.w = _
    rw [z2]
end Lk10
namespace Lk10
open PySem PySem.Spec L2 PD TL
open PyProof.Rows hiding St
variable [WI]
/-! ### a text of lines is read -/
omit [WI] in
theorem ln_fit : ∀ i < 10, ∀ j < 10, (ln i j).length ≤ 20 ∧ 10 ∉ tl (ln i j) := by decide +kernel
omit [WI] in
theorem txt_fit (l : Ln) (h : okL l) : (txt l).length ≤ 20 ∧ 10 ∉ tl (txt l) := by
  cases l with
  | none => exact (by decide +kernel : ("x: (" : Str).length ≤ 20 ∧ 10 ∉ tl ("x: (" : Str))
  | some p => exact ln_fit p.1 (h p rfl).1 p.2 (h p rfl).2
def bookT (ls : List Ln) : Str := Txt.join "\n" (ls.map txt)
omit [WI] in
theorem sum_fit : ∀ (ls : List Ln), (∀ l ∈ ls, okL l) → ((ls.map txt).map (·.length)).sum ≤ 20 * ls.length
  | [], _ => Nat.zero_le _
  | l :: r, h => by
    have a := (txt_fit l (h l List.mem_cons_self)).1
    have b := sum_fit r fun x hx => h x (List.mem_cons_of_mem _ hx)
    simp only [List.map_cons, List.sum_cons, List.length_cons] at b ⊢
    omega
omit [WI] in
theorem book_len {ls : List Ln} (h : ∀ l ∈ ls, okL l) : (bookT ls).length ≤ 21 * ls.length := by
  have a := StrLaws.join_length_le "\n" (ls.map txt)
  have b := sum_fit ls h
  have c : (("\n" : String) : Str).length = 1 := rfl
  have e : bookT ls = Str.join "\n" (ls.map txt) := StrLaws.glued_eq_join _ _
  rw [e]
  rw [List.length_map, c] at a
  omega
omit [WI] in
theorem book_split {ls : List Ln} (h : ∀ l ∈ ls, okL l) (hn : ls ≠ []) : Txt.split (bookT ls) "\n" = ls.map txt :=
  split_join (s := 10) (S := []) rfl (by decide +kernel) (fun z => hn (List.map_eq_nil_iff.mp z)) fun p hp => by
    obtain ⟨l, hl, rfl⟩ := List.mem_map.mp hp
    exact (txt_fit l (h l hl)).2
/-- what reading gives -/
def rdR (ls : List Ln) (w : Wst) : FR := match goR 1 [] ls with
  | .inr m => .exc 0 [.int m, .int 5] w
  | .inl a => match goC 0 [] a with
    | some x => .exc 1 [.str x] w
    | none => .ret (.tuple (a.map rl)) w
omit [WI] in
theorem goR_in : ∀ (xs : List Ln) (n : Int) (acc a : List (Nat × Nat)), (∀ l ∈ xs, okL l) → (∀ p ∈ acc, okP p) → goR n acc xs = .inl a → (∀ p ∈ a, okP p) ∧ a.length = acc.length + xs.length
  | [], n, acc, a, _, ha, e => by cases e; exact ⟨ha, rfl⟩
  | none :: r, n, acc, a, _, _, e => by cases e
  | some p :: r, n, acc, a, h, ha, e => by
    obtain ⟨z1, z2⟩ := goR_in r (n + 1) (acc ++ [p]) a (fun l hl => h l (List.mem_cons_of_mem _ hl)) (fun q hq => by
      rcases List.mem_append.mp hq with hq | hq
      · exact ha q hq
      · rw [List.mem_singleton.mp hq]; exact h (some p) List.mem_cons_self p rfl) e
    refine ⟨z1, ?_⟩
    rw [z2]
    simp
    omega
theorem read_ok {ls : List Ln} (h : ∀ l ∈ ls, okL l) (hn : ls ≠ []) (hl : ls.length < 50) (w : Wst) : sem_read_book [.str (bookT ls)] w = rdR ls w := by
  have loop := rd_loop (.str (bookT ls)) w ls 1 [] h (by simp; omega)
  have sp : splitD (bookT ls) (.str "\n") = some ((ls.map txt).map PyData.str) := by
    unfold splitD
    dsimp only
    have hz : (bookT ls).length + 2 ≤ sizeLine := by have := book_len h; rw [sizeLine_eq]; omega
    rw [if_pos ⟨by decide +kernel, hz⟩, book_split h hn]
  have st : f_read_book (startS 4 false [.str (bookT ls)] w) = (forD [2, 3] rdG rdB (enumFrom 1 (ls.map fun l => .str (txt l))) (rdS (.str (bookT ls)) [] w)).seq fun s => (sSeq (sDrp (fCall 1 sem_check_book (fCons (fSlot 1) fNil))) (sRet (fB1 dTup (fSlot 1)))) s := by
    rw [read_book_eq]
    have e1 : dIsi "str" (.str (bookT ls)) = some (.bool true) := rfl
    have e2 : (ls.map txt).map PyData.str = ls.map fun l => PyData.str (txt l) := by rw [List.map_map]; rfl
    have e3 : stD (.int 1) (.list (ls.map fun l => PyData.str (txt l))) = some (enumFrom 1 (ls.map fun l => PyData.str (txt l))) := rfl
    rw [e2] at sp
    unfold startS
    generalize rdB = RB at *
    generalize rdG = RG at *
    generalize sSeq (sDrp (fCall 1 sem_check_book (fCons (fSlot 1) fNil))) (sRet (fB1 dTup (fSlot 1))) = TL at *
    generalize (ls.map fun l => PyData.str (txt l)) = L at *
    generalize bookT ls = B at *
    simp -implicitDefEqProofs [e1, sp, e3]
  unfold sem_read_book semOf
  rw [st]
  unfold rdR
  cases e : goR 1 [] ls with
  | inr m =>
    rw [e] at loop
    obtain ⟨s', z1, z2⟩ := loop
    rw [show ([] : List (Nat × Nat)).map rl = [] from rfl] at z1
    rw [z1]
    show FR.exc 0 [.int m, .int 5] s'.w = _
    rw [z2]
  | inl a =>
    rw [e] at loop
    obtain ⟨oa, la⟩ := goR_in ls 1 [] a h (fun _ z => nomatch z) e
    have ck := check_ok a oa (by rw [la]; simp; omega) w
    rw [show ([] : List (Nat × Nat)).map rl = [] from rfl] at loop
    rw [loop]
    dsimp only
    generalize hL : a.map rl = L at *
    generalize bookT ls = B at *
    cases e2 : goC 0 [] a with
    | none =>
      rw [e2] at ck
      have e3 : dTup (.list L) = some (.tuple L) := rfl
      generalize sem_check_book = CK at *
      simp -implicitDefEqProofs [ck, e3]
    | some x =>
      rw [e2] at ck
      generalize sem_check_book = CK at *
      simp -implicitDefEqProofs [ck]
theorem read_nil (w : Wst) : sem_read_book [.str (bookT [])] w = .ret (.tuple []) w := by kernel_rfl
/-- what is told -/
def toldR (ls : List Ln) : D := match goR 1 [] ls with
  | .inr m => .tuple [.int m, .int 5]
  | .inl a => match goC 0 [] a with
    | some x => .str x
    | none => .int a.length
theorem told_of {T : Str} {w : Wst} {r : FR} (h : sem_read_book [.str T] w = r) {d : D} (hr : (∃ xs : List D, r = .ret (.tuple xs) w ∧ d = .int xs.length) ∨ (∃ x : Str, r = .exc 1 [.str x] w ∧ d = .str x) ∨ (∃ m : Int, r = .exc 0 [.int m, .int 5] w ∧ d = .tuple [.int m, .int 5])) :
    sem__law_told [.str T] w = .ret d w := by
  unfold sem__law_told semOf f__law_told startS
  generalize sem_read_book = RB at *
  rcases hr with ⟨xs, rfl, rfl⟩ | ⟨x, rfl, rfl⟩ | ⟨m, rfl, rfl⟩
  · simp -implicitDefEqProofs [sTryN, h]
  · simp -implicitDefEqProofs [sTryN, h, fldD, List.lookup]
  · simp -implicitDefEqProofs [sTryN, h, fldD, List.lookup]
theorem told_ok {ls : List Ln} (h : ∀ l ∈ ls, okL l) (hl : ls.length < 50) (w : Wst) : sem__law_told [.str (bookT ls)] w = .ret (toldR ls) w := by
  by_cases hn : ls = []
  · subst hn
    exact told_of (read_nil w) (.inl ⟨[], rfl, rfl⟩)
  · refine told_of (read_ok h hn hl w) ?_
    unfold rdR toldR
    cases goR 1 [] ls with
    | inr m => exact .inr (.inr ⟨m, rfl, rfl⟩)
    | inl a =>
      dsimp only
      cases goC 0 [] a with
      | none => exact .inl ⟨_, rfl, by rw [List.length_map]⟩
      | some x => exact .inr (.inl ⟨x, rfl, rfl⟩)
end Lk10
namespace Lk10
open PySem PySem.Spec L2 PD TL
open PyProof.Rows hiding St
variable [WI]
/-! ### one line is drawn -/
def nmD (p : Nat × Nat) : D := .str (nm p.1)
def lnD (p : Nat × Nat) : D := .str (ln p.1 p.2)
def dueS : Option Str → D
  | none => .none
  | some x => .str x
def pl6 : List D := [.str "a*", .str "a?b?", .str "!a", .str "a{0,3}", .str "^ a* $", .str "(b|a*)"]
def pl4 : List D := [.str "a", .str "^ab$", .str "a+", .str ". b"]
def fP6 : FE := fFz (fLim (fCons (fC (.str "a*")) (fCons (fC (.str "a?b?")) (fCons (fC (.str "!a")) (fCons (fC (.str "a{0,3}")) (fCons (fC (.str "^ a* $")) (fCons (fC (.str "(b|a*)")) fNil)))))))
def fP4 : FE := fFz (fLim (fCons (fC (.str "a")) (fCons (fC (.str "^ab$")) (fCons (fC (.str "a+")) (fCons (fC (.str ". b")) fNil)))))
def nmF : FE := fIf (fAnd (tVal (fCmpS dEq 7 (fC (.int 0)))) (tVal (fCmpS dNe 5 (fFz (fLim fNil))))) (fLent (fCallH 1 1 sem__law_pick (fCons (fSlot 5) fNil))) (fBin dAddX (fC (.str "r")) (fB1 dStr (fSlot 6)))
def ptF : FE := fIf (tVal (fCmpS dEq 7 (fC (.int 1)))) (fCallH 1 1 sem__law_pick (fCons fP6 fNil)) (fCallH 1 1 sem__law_pick (fCons fP4 fNil))
def duF : FO := sIf (fAnd (tVal (fBin dIsN (fSlot 4) (fC .none))) (fOr (fLentT (tVal (fBin dIn (fSlot 8) (fSlot 5)))) (fOr (tVal (fCmpS dEq 7 (fC (.int 1)))) (tVal (fBin dGe (fSlot 6) (fC (.int 8))))))) (sAsg (fSlot 8) (gNm 4)) sNil
def apF : FO := sSeq (sApp 5 (fSlot 8)) (sApp 3 (fBin dAddX (fBin dAddX (fSlot 8) (fC (.str ": "))) (fSlot 9)))
def iB : FO := sSeq (sAsg (fCallH 1 1 sem__law_next (fCons (fC (.int 8)) fNil)) (gNm 7)) (sSeq (sAsg nmF (gNm 8)) (sSeq (sAsg ptF (gNm 9)) (sSeq duF apF)))
abbrev lst (T : D) (L : List D) (due : D) (Ns : List D) (k : D) (e7 e8 e9 : Option Ent) (w : Wst) : S := ⟨[none, some .hdl, some (.val T), some (.own L), some (.val due), some (.own Ns), some (.val k), e7, e8, e9, none], w⟩
omit [WI] in
theorem nm_lay : ∀ i < 10, (PyData.str (nm i)).canLay0 = true ∧ SeqAt.shaped (PyData.str (nm i)) = true := by decide +kernel
theorem shp_nms {ls : List (Nat × Nat)} (h : ∀ p ∈ ls, okP p) : Shp 1 (.list (ls.map nmD)) := .list fun d hd => by
  obtain ⟨p, hp, rfl⟩ := List.mem_map.mp hd
  exact ⟨(nm_lay p.1 (h p hp).1).1, Nat.zero_le _⟩
omit [WI] in
theorem any_nm (ls : List (Nat × Nat)) (x : Str) : ((ls.map nmD).any fun z => PyData.eqv z (.str x)) = decide (x ∈ ls.map fun p => nm p.1) := by
  induction ls with
  | nil => rfl
  | cons p l ih =>
    rw [List.map_cons, List.any_cons, ih, List.map_cons]
    unfold nmD
    by_cases h : nm p.1 = x
    · subst h; simp [PyData.eqv]
    · have h' : ¬ x = nm p.1 := fun e => h e.symm
      have e1 : (nm p.1 == x) = false := beq_false_of_ne h
      have e2 : (x == nm p.1) = false := beq_false_of_ne h'
      simp [PyData.eqv, e1, h']
theorem dIn_nm {ls : List (Nat × Nat)} (h : ∀ p ∈ ls, okP p) {i : Nat} (hi : i < 10) : dIn (.str (nm i)) (.list (ls.map nmD)) = some (.bool (decide (nm i ∈ ls.map fun p => nm p.1))) := by
  unfold dIn dInX; dsimp only; rw [if_pos ⟨(nm_lay i hi).2, Shp.ok (n := 1) (shp_nms h) (by decide)⟩, any_nm, Bool.false_xor]
omit [WI] in
theorem nm_len : ∀ i < 10, (nm i).length ≤ 20 := by decide +kernel
theorem nm_new : ∀ k : Nat, k < 10 → ∃ d, dStr (.int (k : Int)) = some d ∧ dAddX (.str "r") d = some (.str (nm k))
  | k, hk => by
    refine ⟨.str (toString (k : Int)), ?_, ?_⟩
    · have z : ∀ k : Nat, k < 10 → ((k : Int)).natAbs.log2 < 1920 := by decide +kernel
      unfold dStr
      exact if_pos (z k hk)
    · have z : ∀ k : Nat, k < 10 → (("r" : String) : Str).length + (((toString (k : Int) : String)) : Str).length ≤ 1000 := by decide +kernel
      exact dAddX_ss (Nat.le_trans (z k hk) (by rw [sizeLine_eq]; omega))
theorem kind_ok (T due k : D) (L Ns : List D) (ns : List Int) (c : Int) (hc : 0 ≤ c) : ∃ r : Int, ∃ c', 0 ≤ r ∧ r < 8 ∧ 0 ≤ c' ∧
    sAsg (fCallH 1 1 sem__law_next (fCons (fC (.int 8)) fNil)) (gNm 7) (lst T L due Ns k none none none ⟨ns, c⟩) = .nx (lst T L due Ns k (some (.val (.int r))) none none ⟨ns, c'⟩) := by
  obtain ⟨r, h0, h1, e⟩ := next_ok ns c 8 hc (by decide)
  refine ⟨r, c + 1, h0, h1, by omega, ?_⟩
  simp -implicitDefEqProofs [e]
theorem nm_ok (T due : D) (L : List D) (ls : List (Nat × Nat)) (hls : ∀ p ∈ ls, okP p) (k : Nat) (hk : k < 10) (r : Int) (ns : List Int) (c : Int) (hc : 0 ≤ c) : ∃ (i : Nat) (c' : Int), i < 10 ∧ 0 ≤ c' ∧
    sAsg nmF (gNm 8) (lst T L due (ls.map nmD) (.int (k : Int)) (some (.val (.int r))) none none ⟨ns, c⟩) = .nx (lst T L due (ls.map nmD) (.int (k : Int)) (some (.val (.int r))) (some (.val (.str (nm i)))) none ⟨ns, c'⟩) := by
  obtain ⟨d, d1, d2⟩ := nm_new k hk
  have ne : dNe (.list (ls.map nmD)) (.list []) = some (.bool (!(ls.map nmD).isEmpty)) := dNe_nil (shp_nms hls) (by decide)
  by_cases hr : r = 0
  · subst hr
    by_cases he : ls = []
    · refine ⟨k, c, hk, hc, ?_⟩
      have em : (ls.map nmD).isEmpty = true := by rw [he]; rfl
      rw [em] at ne
      generalize ls.map nmD = NL at *
      simp -implicitDefEqProofs [nmF, ne, d1, d2]
    · have pos : 0 < (ls.map nmD).length := by rw [List.length_map]; exact List.length_pos_iff.mpr he
      obtain ⟨x, hx, ex⟩ := pick_ok ns c (ls.map nmD) hc pos
      obtain ⟨p, hp, rfl⟩ := List.mem_map.mp hx
      refine ⟨p.1, c + 1, (hls p hp).1, by omega, ?_⟩
      have em : (ls.map nmD).isEmpty = false := by
        rw [List.isEmpty_eq_false_iff]
        exact fun z => he (List.map_eq_nil_iff.mp z)
      rw [em] at ne
      unfold nmD at ex
      have at_ : atomD (.str (nm p.1)) = true := rfl
      generalize hN : ls.map nmD = NL at *
      generalize nm p.1 = N at *
      have ex' : sem__law_pick [.list NL] ⟨ns, c⟩ = .ret (.str N) ⟨ns, c + 1⟩ := by rw [← hN]; exact ex
      simp -implicitDefEqProofs [nmF, ne, fLent, frzS, frzE, ex', at_]
  · refine ⟨k, c, hk, hc, ?_⟩
    have hr' : (r == 0) = false := beq_false_of_ne hr
    generalize ls.map nmD = NL at *
    simp -implicitDefEqProofs [nmF, hr, d1, d2]
theorem fP6_ok (s : S) : fP6 s = .ok (.list pl6) s := rfl
theorem fP4_ok (s : S) : fP4 s = .ok (.list pl4) s := rfl
theorem pt_of6 : ∀ d ∈ pl6, ∃ j, j < 10 ∧ bad j = true ∧ d = .str (pat j) := fun d hd => by
  unfold pl6 at hd
  simp only [List.mem_cons, List.not_mem_nil, or_false] at hd
  rcases hd with rfl | rfl | rfl | rfl | rfl | rfl
  · exact ⟨0, by decide, rfl, rfl⟩
  · exact ⟨1, by decide, rfl, rfl⟩
  · exact ⟨2, by decide, rfl, rfl⟩
  · exact ⟨3, by decide, rfl, rfl⟩
  · exact ⟨4, by decide, rfl, rfl⟩
  · exact ⟨5, by decide, rfl, rfl⟩
theorem pt_of4 : ∀ d ∈ pl4, ∃ j, j < 10 ∧ bad j = false ∧ d = .str (pat j) := fun d hd => by
  unfold pl4 at hd
  simp only [List.mem_cons, List.not_mem_nil, or_false] at hd
  rcases hd with rfl | rfl | rfl | rfl
  · exact ⟨6, by decide, rfl, rfl⟩
  · exact ⟨7, by decide, rfl, rfl⟩
  · exact ⟨8, by decide, rfl, rfl⟩
  · exact ⟨9, by decide, rfl, rfl⟩
def p6A : FA := (fCons fP6 fNil)
def p4A : FA := (fCons fP4 fNil)
theorem p6A_ok (s : S) : p6A s = .ok [.list pl6] s := rfl
theorem p4A_ok (s : S) : p4A s = .ok [.list pl4] s := rfl
theorem ptF_eq : ptF = fIf (tVal (fCmpS dEq 7 (fC (.int 1)))) (fCallH 1 1 sem__law_pick p6A) (fCallH 1 1 sem__law_pick p4A) := rfl
theorem pt_ok (T due k e8 : D) (L Ns : List D) (r : Int) (ns : List Int) (c : Int) (hc : 0 ≤ c) : ∃ (j : Nat) (c' : Int), j < 10 ∧ 0 ≤ c' ∧ bad j = decide (r = 1) ∧
    sAsg ptF (gNm 9) (lst T L due Ns k (some (.val (.int r))) (some (.val e8)) none ⟨ns, c⟩) = .nx (lst T L due Ns k (some (.val (.int r))) (some (.val e8)) (some (.val (.str (pat j)))) ⟨ns, c'⟩) := by
  by_cases hr : r = 1
  · subst hr
    obtain ⟨x, hx, ex⟩ := pick_ok ns c pl6 hc (by decide)
    obtain ⟨j, hj, bj, rfl⟩ := pt_of6 x hx
    refine ⟨j, c + 1, hj, by omega, by rw [bj]; rfl, ?_⟩
    rw [ptF_eq]
    have f6 := p6A_ok
    generalize p6A = A6 at *
    generalize p4A = A4 at *
    generalize pat j = PJ at *
    generalize pl6 = P6 at *
    simp -implicitDefEqProofs [f6, ex]
  · obtain ⟨x, hx, ex⟩ := pick_ok ns c pl4 hc (by decide)
    obtain ⟨j, hj, bj, rfl⟩ := pt_of4 x hx
    refine ⟨j, c + 1, hj, by omega, by rw [bj, decide_eq_false hr], ?_⟩
    rw [ptF_eq]
    have f4 := p4A_ok
    generalize p6A = A6 at *
    generalize p4A = A4 at *
    generalize pat j = PJ at *
    generalize pl4 = P4 at *
    simp -implicitDefEqProofs [f4, ex, hr]
/-- the due name behind one more line -/
def stepDue (due : Option Str) (seen : List Str) (k : Nat) (p : Nat × Nat) : Option Str := match due with
  | some x => some x
  | none => if nm p.1 ∈ seen ∨ 8 ≤ k ∨ bad p.2 = true then some (nm p.1) else none
theorem du_ok (T : D) (L : List D) (due : Option Str) {ls : List (Nat × Nat)} (hls : ∀ p ∈ ls, okP p) (k i j : Nat) (hi : i < 10) (r : Int) (hb : bad j = decide (r = 1)) (e9 : D) (w : Wst) :
    duF (lst T L (dueS due) (ls.map nmD) (.int (k : Int)) (some (.val (.int r))) (some (.val (.str (nm i)))) (some (.val e9)) w) = .nx (lst T L (dueS (stepDue due (ls.map fun p => nm p.1) k (i, j))) (ls.map nmD) (.int (k : Int)) (some (.val (.int r))) (some (.val (.str (nm i)))) (some (.val e9)) w) := by
  cases due with
  | some x =>
    have e1 : dIsN (.str x) .none = some (.bool false) := rfl
    show duF _ = .nx (lst T L (.str x) _ _ _ _ _ w)
    unfold dueS
    generalize ls.map nmD = NL at *
    generalize nm i = N at *
    simp -implicitDefEqProofs [duF, e1]
  | none =>
    have e1 : dIsN .none .none = some (.bool true) := rfl
    have e2 := dIn_nm hls hi
    unfold stepDue
    dsimp only
    rw [hb]
    generalize hs : (ls.map fun p => nm p.1) = seen at *
    have h8 : ((8 : Int) ≤ (k : Int)) = (8 ≤ k) := by rw [eq_iff_iff]; omega
    generalize ls.map nmD = NL at *
    generalize nm i = N at *
    unfold dueS
    by_cases h1 : N ∈ seen
    · simp -implicitDefEqProofs [duF, e1, fLentT, frzS, frzE, e2, h1]
    · by_cases h2 : r = 1
      · simp -implicitDefEqProofs [duF, e1, fLentT, frzS, frzE, e2, h1, h2]
      · by_cases h3 : 8 ≤ k
        · have h3' : (8 : Int) ≤ (k : Int) := by omega
          simp -implicitDefEqProofs [duF, e1, fLentT, frzS, frzE, e2, h1, h2, h3, h3']
        · have h3' : ¬ (8 : Int) ≤ (k : Int) := by omega
          simp -implicitDefEqProofs [duF, e1, fLentT, frzS, frzE, e2, h1, h2, h3, h3']
theorem ap_ok (T due k e7 : D) (ls : List (Nat × Nat)) (hl : ls.length < 1000) (i j : Nat) (hi : i < 10) (hj : j < 10) (w : Wst) :
    apF (lst T (ls.map lnD) due (ls.map nmD) k (some (.val e7)) (some (.val (.str (nm i)))) (some (.val (.str (pat j)))) w) = .nx (lst T ((ls ++ [(i, j)]).map lnD) due ((ls ++ [(i, j)]).map nmD) k (some (.val e7)) (some (.val (.str (nm i)))) (some (.val (.str (pat j)))) w) := by
  have z1 : ∀ i < 10, (nm i).length + (": " : Str).length ≤ 1000 := by decide +kernel
  have z2 : ∀ i < 10, ∀ j < 10, (nm i ++ ": " : Str).length + (pat j).length ≤ 1000 := by decide +kernel
  have sz : 1000 ≤ sizeLine := by rw [sizeLine_eq]; omega
  have a1 : dAddX (.str (nm i)) (.str ": ") = some (.str (nm i ++ ": ")) := dAddX_ss (Nat.le_trans (z1 i hi) sz)
  have a2 : dAddX (.str (nm i ++ ": ")) (.str (pat j)) = some (.str (ln i j)) := dAddX_ss (Nat.le_trans (z2 i hi j hj) sz)
  have l1 : (ls.map lnD).length < sizeLine := by rw [List.length_map]; omega
  have l2 : (ls.map nmD).length < sizeLine := by rw [List.length_map]; omega
  have m1 : (ls ++ [(i, j)]).map lnD = ls.map lnD ++ [.str (ln i j)] := by rw [List.map_append]; rfl
  have m2 : (ls ++ [(i, j)]).map nmD = ls.map nmD ++ [.str (nm i)] := by rw [List.map_append]; rfl
  rw [m1, m2]
  generalize ls.map lnD = LL at *
  generalize ls.map nmD = NL at *
  generalize (nm i ++ ": " : Str) = NC at *
  generalize nm i = N at *
  generalize ln i j = LN at *
  generalize pat j = PJ at *
  simp -implicitDefEqProofs [apF, a1, a2, l1, l2]
/-- one line more -/
theorem line_ok (T : D) (due : Option Str) {ls : List (Nat × Nat)} (hls : ∀ p ∈ ls, okP p) (hl : ls.length < 1000) (k : Nat) (hk : k < 10) (ns : List Int) (c : Int) (hc : 0 ≤ c) : ∃ (p : Nat × Nat) (c' : Int) (e7 e8 e9 : D), okP p ∧ 0 ≤ c' ∧
    iB (lst T (ls.map lnD) (dueS due) (ls.map nmD) (.int (k : Int)) none none none ⟨ns, c⟩) = .nx (lst T ((ls ++ [p]).map lnD) (dueS (stepDue due (ls.map fun p => nm p.1) k p)) ((ls ++ [p]).map nmD) (.int (k : Int)) (some (.val e7)) (some (.val e8)) (some (.val e9)) ⟨ns, c'⟩) := by
  obtain ⟨r, c1, _, _, h1, e1⟩ := kind_ok T (dueS due) (.int (k : Int)) (ls.map lnD) (ls.map nmD) ns c hc
  obtain ⟨i, c2, hi, h2, e2⟩ := nm_ok T (dueS due) (ls.map lnD) ls hls k hk r ns c1 h1
  obtain ⟨j, c3, hj, h3, bj, e3⟩ := pt_ok T (dueS due) (.int (k : Int)) (.str (nm i)) (ls.map lnD) (ls.map nmD) r ns c2 h2
  have e4 := du_ok T (ls.map lnD) due hls k i j hi r bj (.str (pat j)) ⟨ns, c3⟩
  have e5 := ap_ok T (dueS (stepDue due (ls.map fun p => nm p.1) k (i, j))) (.int (k : Int)) (.int r) ls hl i j hi hj ⟨ns, c3⟩
  refine ⟨(i, j), c3, .int r, .str (nm i), .str (pat j), ⟨hi, hj⟩, h3, ?_⟩
  unfold iB
  show (sAsg _ _ _).seq _ = _
  rw [e1]
  show (sAsg nmF _ _).seq _ = _
  rw [e2]
  show (sAsg ptF _ _).seq _ = _
  rw [e3]
  show (duF _).seq _ = _
  rw [e4]
  exact e5
end Lk10
namespace Lk10
open PySem PySem.Spec L2 PD TL
open PyProof.Rows hiding St
variable [WI]
/-! ### the law -/
omit [WI] in
theorem goC_app (p : Nat × Nat) : ∀ (xs : List (Nat × Nat)) (k : Nat) (seen : List Str), goC k seen (xs ++ [p]) = stepDue (goC k seen xs) (seen ++ xs.map fun q => nm q.1) (k + xs.length) p
  | [], k, seen => by
    show goC k seen [p] = _
    simp only [goC, stepDue, List.map_nil, List.append_nil, List.length_nil, Nat.add_zero]
  | q :: r, k, seen => by
    by_cases h : nm q.1 ∈ seen ∨ 8 ≤ k ∨ bad q.2 = true
    · have e1 : goC k seen (q :: r ++ [p]) = some (nm q.1) := if_pos h
      have e2 : goC k seen (q :: r) = some (nm q.1) := if_pos h
      rw [e1, e2]
      rfl
    · have e1 : goC k seen (q :: r ++ [p]) = goC (k + 1) (seen ++ [nm q.1]) (r ++ [p]) := if_neg h
      have e2 : goC k seen (q :: r) = goC (k + 1) (seen ++ [nm q.1]) r := if_neg h
      rw [e1, e2, goC_app p r (k + 1) (seen ++ [nm q.1])]
      rw [List.map_cons, List.length_cons, List.append_assoc, show k + 1 + r.length = k + (r.length + 1) by omega]
      rfl
omit [WI] in
theorem goC_mem : ∀ (xs : List (Nat × Nat)) (k : Nat) (seen : List Str) (x : Str), goC k seen xs = some x → ∃ p ∈ xs, x = nm p.1
  | [], _, _, _, h => by cases h
  | q :: r, k, seen, x, h => by
    by_cases c : nm q.1 ∈ seen ∨ 8 ≤ k ∨ bad q.2 = true
    · have e2 : goC k seen (q :: r) = some (nm q.1) := if_pos c
      rw [e2] at h
      cases h
      exact ⟨q, List.mem_cons_self, rfl⟩
    · have e2 : goC k seen (q :: r) = goC (k + 1) (seen ++ [nm q.1]) r := if_neg c
      rw [e2] at h
      obtain ⟨p, hp, e⟩ := goC_mem r (k + 1) _ x h
      exact ⟨p, List.mem_cons_of_mem _ hp, e⟩
omit [WI] in
theorem goR_all : ∀ (xs : List (Nat × Nat)) (n : Int) (acc : List (Nat × Nat)), goR n acc (xs.map some) = .inl (acc ++ xs)
  | [], n, acc => by rw [List.append_nil]; rfl
  | p :: r, n, acc => by
    show goR (n + 1) (acc ++ [p]) (r.map some) = _
    rw [goR_all r, List.append_assoc]
    rfl
omit [WI] in
theorem goR_no (ys : List Ln) : ∀ (xs : List (Nat × Nat)) (n : Int) (acc : List (Nat × Nat)), goR n acc (xs.map some ++ none :: ys) = .inr (n + xs.length)
  | [], n, acc => by
    show (Sum.inr n : _ ⊕ Int) = _
    simp
  | p :: r, n, acc => by
    show goR (n + 1) (acc ++ [p]) (r.map some ++ none :: ys) = _
    rw [goR_no ys r]
    congr 1
    simp
    omega
/-- the lines are drawn -/
theorem lines_ok (T : D) (ns : List Int) : ∀ (m k : Nat) (ls : List (Nat × Nat)) (c : Int), k + m ≤ 10 → ls.length = k → (∀ p ∈ ls, okP p) → 0 ≤ c → ∃ (ls' : List (Nat × Nat)) (c' : Int), ls'.length = k + m ∧ (∀ p ∈ ls', okP p) ∧ 0 ≤ c' ∧
    forD [6, 7, 8, 9] (gNm 6) iB ((List.range' k m).map nD) ⟨[none, some .hdl, some (.val T), some (.own (ls.map lnD)), some (.val (dueS (goC 0 [] ls))), some (.own (ls.map nmD)), none, none, none, none, none], ⟨ns, c⟩⟩
      = .nx ⟨[none, some .hdl, some (.val T), some (.own (ls'.map lnD)), some (.val (dueS (goC 0 [] ls'))), some (.own (ls'.map nmD)), none, none, none, none, none], ⟨ns, c'⟩⟩
  | 0, k, ls, c, _, hl, ho, hc => ⟨ls, c, by omega, ho, hc, rfl⟩
  | m + 1, k, ls, c, hk, hl, ho, hc => by
    obtain ⟨p, c1, e7, e8, e9, op, h1, e⟩ := line_ok T (goC 0 [] ls) ho (by omega) k (by omega) ns c hc
    have sd : stepDue (goC 0 [] ls) (ls.map fun q => nm q.1) k p = goC 0 [] (ls ++ [p]) := by
      rw [goC_app]
      simp [hl]
    rw [sd] at e
    have ho' : ∀ q ∈ ls ++ [p], okP q := fun q hq => by
      rcases List.mem_append.mp hq with hq | hq
      · exact ho q hq
      · rw [List.mem_singleton.mp hq]; exact op
    obtain ⟨ls', c', l', o', h', e'⟩ := lines_ok T ns m (k + 1) (ls ++ [p]) c1 (by omega) (by simp; omega) ho' h1
    refine ⟨ls', c', by omega, o', h', ?_⟩
    rw [List.range'_succ, List.map_cons]
    show (match iB (lst T (ls.map lnD) (dueS (goC 0 [] ls)) (ls.map nmD) (.int (k : Int)) none none none ⟨ns, c⟩) with
      | .nx s2 => forD [6, 7, 8, 9] (gNm 6) iB ((List.range' (k + 1) m).map nD) (kill [6, 7, 8, 9] s2)
      | .ct s2 => forD [6, 7, 8, 9] (gNm 6) iB ((List.range' (k + 1) m).map nD) (kill [6, 7, 8, 9] s2)
      | .bk s2 => .nx (kill [6, 7, 8, 9] s2)
      | o => o) = _
    rw [e]
    exact e'
def cntF : FA := fR1 (fCons (fCallH 1 1 sem__law_next (fCons (fC (.int 11)) fNil)) fNil)
def p3F : FO := sAsg (fIf (tVal (fBin dIsN (fSlot 4) (fC .none))) (fLenS 5) (fSlot 4)) (gNm 4)
def p4F : FO := sIf (tVal (fBin dEq (fCallH 1 1 sem__law_next (fCons (fC (.int 3)) fNil)) (fC (.int 0)))) (sSeq (sAsg (fCallH 1 1 sem__law_next (fCons (fBin dAddX (fLenS 3) (fC (.int 1))) fNil)) (gNm 10))
    (sSeq (sSetO 3 (fCatL (fFz (fCatL (fCutX (fSlot 3) fNoP (fPt (fSlot 10))) (fFz (fLim (fCons (fC (.str "x: (")) fNil))))) (fCutX (fSlot 3) (fPt (fSlot 10)) fNoP)))
    (sAsg (fTup (fCons (fBin dAddX (fSlot 10) (fC (.int 1))) (fCons (fC (.int 5)) fNil))) (gNm 4)))) sNil
def p5F : FO := sIf (tVal (fBin dNe (fCall 1 sem__law_told (fCons (fJoin (fC (.str "\n")) (fSlot 3)) fNil)) (fSlot 4))) (sRet (fC (.bool false))) sNil
def mxF : FO := sMix [3, 4, 5] (fIts [.inr (fO (fLim fNil)), .inl (fC .none), .inr (fO (fLim fNil))])
def oB : FO := sSeq mxF (sSeq (sFor [6, 7, 8, 9] cntF (gNm 6) iB) (sSeq p3F (sSeq p4F p5F)))
theorem law_eq : f_law = sSeq (sFor [2, 3, 4, 5, 6, 7, 8, 9, 10] (fR1 (fCons (fC (.int 3)) fNil)) (gNm 2) oB) (sRet (fC (.bool true))) := rfl
abbrev ost (T : D) (e3 e4 e5 e10 : Option Ent) (w : Wst) : S := ⟨[none, some .hdl, some (.val T), e3, e4, e5, none, none, none, none, e10], w⟩
theorem mx_ok (T : D) (w : Wst) : mxF (ost T none none none none w) = .nx (ost T (some (.own [])) (some (.val .none)) (some (.own [])) none w) := rfl
theorem p3_ok (T : D) (e3 : Option Ent) {ls : List (Nat × Nat)} (w : Wst) : p3F (ost T e3 (some (.val (dueS (goC 0 [] ls)))) (some (.own (ls.map nmD))) none w) = .nx (ost T e3 (some (.val (toldR (ls.map some)))) (some (.own (ls.map nmD))) none w) := by
  have e : toldR (ls.map some) = match goC 0 [] ls with | some x => .str x | none => .int ls.length := by
    unfold toldR
    rw [goR_all, List.nil_append] <;> rfl
  rw [e]
  have ll : (ls.map nmD).length = ls.length := List.length_map _
  generalize ls.map nmD = NL at *
  cases goC 0 [] ls with
  | none =>
    have e1 : dIsN .none .none = some (.bool true) := rfl
    unfold dueS
    simp -implicitDefEqProofs [p3F, e1, ll]
  | some x =>
    have e1 : dIsN (.str x) .none = some (.bool false) := rfl
    unfold dueS
    simp -implicitDefEqProofs [p3F, e1]
theorem lnD_eq (ls : List (Nat × Nat)) : ls.map lnD = (ls.map some).map fun l => PyData.str (txt l) := by
  rw [List.map_map]
  rfl
def lsD (LS : List Ln) : List D := LS.map fun l => PyData.str (txt l)
/-- one fault more, or none -/
theorem p4_ok (T : D) {ls : List (Nat × Nat)} (hl : ls.length ≤ 10) (ho : ∀ p ∈ ls, okP p) (e5 : Option Ent) (ns : List Int) (c : Int) (hc : 0 ≤ c) : ∃ (LS : List Ln) (e10 : Option Ent) (c' : Int), (∀ l ∈ LS, okL l) ∧ LS.length ≤ 11 ∧ 0 ≤ c' ∧
    p4F (ost T (some (.own (ls.map lnD))) (some (.val (toldR (ls.map some)))) e5 none ⟨ns, c⟩) = .nx (ost T (some (.own (lsD LS))) (some (.val (toldR LS))) e5 e10 ⟨ns, c'⟩) := by
  obtain ⟨r, h0, h1, e⟩ := next_ok ns c 3 hc (by decide)
  have okS : ∀ xs : List (Nat × Nat), (∀ p ∈ xs, okP p) → ∀ l ∈ xs.map some, okL l := fun xs h l hl p e => by
    obtain ⟨q, hq, rfl⟩ := List.mem_map.mp hl
    cases e
    exact h _ hq
  by_cases hr : r = 0
  · subst hr
    obtain ⟨a, a0, a1, e2⟩ := next_ok ns (c + 1) ((ls.length : Int) + 1) (by omega) (by omega)
    obtain ⟨n, rfl⟩ := Int.eq_ofNat_of_zero_le a0
    have hn : n ≤ ls.length := by omega
    have lt : (ls.take n).length = n := by rw [List.length_take]; omega
    have tr : toldR ((ls.take n).map some ++ none :: (ls.drop n).map some) = .tuple [.int ((n : Int) + 1), .int 5] := by
      unfold toldR
      rw [goR_no, lt, show (1 : Int) + (n : Int) = (n : Int) + 1 by omega]
    refine ⟨(ls.take n).map some ++ none :: (ls.drop n).map some, some (.val (.int (n : Int))), c + 1 + 1, fun l h => ?_, ?_, by omega, ?_⟩
    · rcases List.mem_append.mp h with h | h
      · exact okS _ (fun p hp => ho p (List.mem_of_mem_take hp)) l h
      · rcases List.mem_cons.mp h with h | h
        · subst h
          exact fun p z => nomatch z
        · exact okS _ (fun p hp => ho p (List.mem_of_mem_drop hp)) l h
    · simp
      omega
    · rw [tr]
      have ld : lsD ((ls.take n).map some ++ none :: (ls.drop n).map some) = (ls.map lnD).take n ++ [.str "x: ("] ++ (ls.map lnD).drop n := by
        unfold lsD
        rw [List.map_append, List.map_cons, ← lnD_eq, ← lnD_eq, List.map_take, List.map_drop, List.append_assoc]
        rfl
      rw [ld]
      have c1 := cutG_to (ls.map lnD) n
      have c2 := cutG_from (ls.map lnD) n
      have ll : (ls.map lnD).length = ls.length := List.length_map _
      have sz : 1000 ≤ sizeLine := by rw [sizeLine_eq]; omega
      have g1 : catD (.list ((ls.map lnD).take n)) (.list [.str "x: ("]) = some ((ls.map lnD).take n ++ [.str "x: ("]) := catD_ll (by simp; omega)
      have g2 : catD (.list ((ls.map lnD).take n ++ [.str "x: ("])) (.list ((ls.map lnD).drop n)) = some ((ls.map lnD).take n ++ [.str "x: ("] ++ (ls.map lnD).drop n) := catD_ll (by simp; omega)
      have pd : ptD (.int (n : Int)) = some (some (n : Int)) := rfl
      have s1 : (1 : Nat) ≤ sizeLine := by omega
      have s2 : (2 : Nat) ≤ sizeLine := by omega
      generalize toldR (ls.map some) = TD at *
      generalize ls.map lnD = LL at *
      generalize LL.take n = LT at *
      generalize LL.drop n = LD at *
      simp -implicitDefEqProofs [p4F, e, e2, ll, c1, c2, g1, g2, pd, s1, s2]
  · refine ⟨ls.map some, none, c + 1, okS ls ho, by rw [List.length_map]; omega, by omega, ?_⟩
    have ld : lsD (ls.map some) = ls.map lnD := (lnD_eq ls).symm
    rw [ld]
    generalize toldR (ls.map some) = TD at *
    generalize ls.map lnD = LL at *
    simp -implicitDefEqProofs [p4F, e, hr]
omit [WI] in
theorem strs_txt : ∀ LS : List Ln, strsD (lsD LS) = some (LS.map txt)
  | [] => rfl
  | l :: r => by
    show (strD (.str (txt l))).bind (fun i => (strsD (lsD r)).map fun l => i :: l) = _
    rw [strs_txt r]
    rfl
theorem told_shp {LS : List Ln} (h : ∀ l ∈ LS, okL l) : Shp 1 (toldR LS) := by
  unfold toldR
  cases e : goR 1 [] LS with
  | inr m =>
    refine Shp.tuple (n := 0) fun d hd => ?_
    simp only [List.mem_cons, List.not_mem_nil, or_false] at hd
    rcases hd with rfl | rfl
    · exact .int
    · exact .int
  | inl a =>
    obtain ⟨oa, _⟩ := goR_in LS 1 [] a h (fun _ z => nomatch z) e
    dsimp only
    cases e2 : goC 0 [] a with
    | none => exact .int
    | some x =>
      obtain ⟨p, hp, rfl⟩ := goC_mem a 0 [] x e2
      exact ⟨(nm_lay p.1 (oa p hp).1).1, Nat.zero_le _⟩
theorem p5_ok (T : D) {LS : List Ln} (h : ∀ l ∈ LS, okL l) (hl : LS.length ≤ 11) (e5 e10 : Option Ent) (w : Wst) : ∃ e3, p5F (ost T (some (.own (lsD LS))) (some (.val (toldR LS))) e5 e10 w) = .nx (ost T e3 (some (.val (toldR LS))) e5 e10 w) := by
  have a := told_ok h (by omega) w
  have sm := sum_fit LS h
  have j : joinD "\n" (.list (lsD LS)) = some (.str (bookT LS)) := by
    unfold joinD
    rw [items_list, Option.bind_some, strs_txt, Option.bind_some]
    have c : (("\n" : String) : Str).length = 1 := rfl
    rw [if_pos (by rw [c, List.length_map]; omega)]
    rfl
  have ne := dNe_refl (told_shp h) (by decide)
  refine ⟨some (.val (.list (lsD LS))), ?_⟩
  generalize toldR LS = TD at *
  generalize bookT LS = B at *
  generalize lsD LS = L at *
  simp -implicitDefEqProofs [p5F, fJoin, isS, j, a, ne]
theorem turn_ok (T : D) (ns : List Int) (c : Int) (hc : 0 ≤ c) : ∃ s', oB (ost T none none none none ⟨ns, c⟩) = .nx s' ∧ ∃ c', 0 ≤ c' ∧ kill [2, 3, 4, 5, 6, 7, 8, 9, 10] s' = ⟨[none, some .hdl, none, none, none, none, none, none, none, none, none], ⟨ns, c'⟩⟩ := by
  obtain ⟨r, h0, h1, e⟩ := next_ok ns c 11 hc (by decide)
  obtain ⟨n, rfl⟩ := Int.eq_ofNat_of_zero_le h0
  obtain ⟨ls, c2, l2, o2, h2, e2⟩ := lines_ok T ns n 0 [] (c + 1) (by omega) rfl (fun _ z => nomatch z) (by omega)
  have e3 := p3_ok T (some (.own (ls.map lnD))) (ls := ls) ⟨ns, c2⟩
  obtain ⟨LS, e10, c4, o4, l4, h4, e4⟩ := p4_ok T (ls := ls) (by omega) o2 (some (.own (ls.map nmD))) ns c2 h2
  obtain ⟨x3, e5⟩ := p5_ok T o4 l4 (some (.own (ls.map nmD))) e10 ⟨ns, c4⟩
  refine ⟨ost T x3 (some (.val (toldR LS))) (some (.own (ls.map nmD))) e10 ⟨ns, c4⟩, ?_, c4, h4, rfl⟩
  · unfold oB
    show (mxF _).seq _ = _
    rw [mx_ok]
    show (sFor [6, 7, 8, 9] cntF (gNm 6) iB _).seq _ = _
    have lp : sFor [6, 7, 8, 9] cntF (gNm 6) iB (ost T (some (.own [])) (some (.val .none)) (some (.own [])) none ⟨ns, c⟩) = forD [6, 7, 8, 9] (gNm 6) iB ((List.range' 0 n).map nD) (ost T (some (.own [])) (some (.val .none)) (some (.own [])) none ⟨ns, c + 1⟩) := by
      have rg := rng1_nat (n := n) (by omega)
      rw [List.range_eq_range'] at rg
      generalize iB = IB at *
      generalize (List.range' 0 n).map nD = RN at *
      simp -implicitDefEqProofs [cntF, e, rg]
    rw [lp]
    have e2' : forD [6, 7, 8, 9] (gNm 6) iB ((List.range' 0 n).map nD) (ost T (some (.own [])) (some (.val .none)) (some (.own [])) none ⟨ns, c + 1⟩) = .nx (ost T (some (.own (ls.map lnD))) (some (.val (dueS (goC 0 [] ls)))) (some (.own (ls.map nmD))) none ⟨ns, c2⟩) := e2
    rw [e2']
    show (p3F _).seq _ = _
    rw [e3]
    show (p4F _).seq _ = _
    rw [e4]
    exact e5
theorem good : ∀ ns : List Int, ns.length ≤ 63 → ∃ s', f_law (lawS 11 ns) = .rt (.bool true) s' := by
  intro ns _
  rw [law_eq]
  have loop := forD_inv (kl := [2, 3, 4, 5, 6, 7, 8, 9, 10]) (tg := gNm 2) (body := oB) (fun s => ∃ c, 0 ≤ c ∧ s = ⟨[none, some .hdl, none, none, none, none, none, none, none, none, none], ⟨ns, c⟩⟩) (upTo 0 3) ⟨[none, some .hdl, none, none, none, none, none, none, none, none, none], ⟨ns, 0⟩⟩ ⟨0, Int.le_refl _, rfl⟩ (fun d _ s ⟨c, hc, e⟩ => by
    subst e
    obtain ⟨s', e1, c', h', e2⟩ := turn_ok d ns c hc
    exact ⟨_, s', rfl, .inl e1, c', h', e2⟩)
  obtain ⟨s', e1, c, hc, rfl⟩ := loop
  have st : (sSeq (sFor [2, 3, 4, 5, 6, 7, 8, 9, 10] (fR1 (fCons (fC (.int 3)) fNil)) (gNm 2) oB) (sRet (fC (.bool true)))) (lawS 11 ns) = (forD [2, 3, 4, 5, 6, 7, 8, 9, 10] (gNm 2) oB (upTo 0 3) ⟨[none, some .hdl, none, none, none, none, none, none, none, none, none], ⟨ns, 0⟩⟩).seq fun s => .rt (.bool true) s := rfl
  rw [st, e1]
  exact ⟨_, rfl⟩
end Lk10
namespace Lk10
open PySem PySem.Spec L2 PD
open PyProof.Rows hiding St
def ex0 : ExT := fun _ => none
def exX (X_BadBook X_BadText : Addr) : ExT := fun k => match k with
  | 1 => some (X_BadBook, ["name"])
  | 0 => some (X_BadText, ["line", "column"])
  | _ => none
theorem all_mk {l : PySem.W.OpenLaw} {w : World} {K : PySem.W.Frag} {h : Heap} {mg : Str → Option Value} {fa : Addr} (X : K.In h) (G : h.Ns mainGlobals mg) (hfa : mg "law" = some (.ref fa))
    {C_PatternReader : Addr}
    {f0 : Addr} {od0 an0 : Option Addr} {sl0 : Array (Option Value)} {oc0 kV0 dc0 pm0 cd0 ct0 : Value}
    {f1 : Addr} {od1 an1 : Option Addr} {sl1 : Array (Option Value)} {oc1 kV1 dc1 pm1 cd1 ct1 : Value}
    {f2 : Addr} {od2 an2 : Option Addr} {sl2 : Array (Option Value)} {oc2 kV2 dc2 pm2 cd2 ct2 : Value}
    {f3 : Addr} {od3 an3 : Option Addr} {sl3 : Array (Option Value)} {oc3 kV3 dc3 pm3 cd3 ct3 : Value}
    {f4 : Addr} {od4 an4 : Option Addr} {sl4 : Array (Option Value)} {oc4 kV4 dc4 pm4 cd4 ct4 : Value}
    {f5 : Addr} {od5 an5 : Option Addr} {sl5 : Array (Option Value)} {oc5 kV5 dc5 pm5 cd5 ct5 : Value}
    {f6 : Addr} {od6 an6 : Option Addr} {sl6 : Array (Option Value)} {oc6 kV6 dc6 pm6 cd6 ct6 : Value}
    {f7 : Addr} {od7 an7 : Option Addr} {sl7 : Array (Option Value)} {oc7 kV7 dc7 pm7 cd7 ct7 : Value}
    {f8 : Addr} {od8 an8 : Option Addr} {sl8 : Array (Option Value)} {oc8 kV8 dc8 pm8 cd8 ct8 : Value}
    {f9 : Addr} {od9 an9 : Option Addr} {sl9 : Array (Option Value)} {oc9 kV9 dc9 pm9 cd9 ct9 : Value}
    {f10 : Addr} {od10 an10 : Option Addr} {sl10 : Array (Option Value)} {oc10 kV10 dc10 pm10 cd10 ct10 : Value}
    {f11 : Addr} {od11 an11 : Option Addr} {sl11 : Array (Option Value)} {oc11 kV11 dc11 pm11 cd11 ct11 : Value}
    {f12 : Addr} {od12 an12 : Option Addr} {sl12 : Array (Option Value)} {oc12 kV12 dc12 pm12 cd12 ct12 : Value}
    {f13 : Addr} {od13 an13 : Option Addr} {sl13 : Array (Option Value)} {oc13 kV13 dc13 pm13 cd13 ct13 : Value}
    {f14 : Addr} {od14 an14 : Option Addr} {sl14 : Array (Option Value)} {oc14 kV14 dc14 pm14 cd14 ct14 : Value}
    {f15 : Addr} {od15 an15 : Option Addr} {sl15 : Array (Option Value)} {oc15 kV15 dc15 pm15 cd15 ct15 : Value}
    {f16 : Addr} {od16 an16 : Option Addr} {sl16 : Array (Option Value)} {oc16 kV16 dc16 pm16 cd16 ct16 : Value}
    {f17 : Addr} {od17 an17 : Option Addr} {sl17 : Array (Option Value)} {oc17 kV17 dc17 pm17 cd17 ct17 : Value}
    {f18 : Addr} {od18 an18 : Option Addr} {sl18 : Array (Option Value)} {oc18 kV18 dc18 pm18 cd18 ct18 : Value}
    {f19 : Addr} {od19 an19 : Option Addr} {sl19 : Array (Option Value)} {oc19 kV19 dc19 pm19 cd19 ct19 : Value}
    {f20 : Addr} {od20 an20 : Option Addr} {sl20 : Array (Option Value)} {oc20 kV20 dc20 pm20 cd20 ct20 : Value}
    {f21 : Addr} {od21 an21 : Option Addr} {sl21 : Array (Option Value)} {oc21 kV21 dc21 pm21 cd21 ct21 : Value}
    {f22 : Addr} {od22 an22 : Option Addr} {sl22 : Array (Option Value)} {oc22 kV22 dc22 pm22 cd22 ct22 : Value}
    {f23 : Addr} {od23 an23 : Option Addr} {sl23 : Array (Option Value)} {oc23 kV23 dc23 pm23 cd23 ct23 : Value}
    {f24 : Addr} {od24 an24 : Option Addr} {sl24 : Array (Option Value)} {oc24 kV24 dc24 pm24 cd24 ct24 : Value}
    {f25 : Addr} {od25 an25 : Option Addr} {sl25 : Array (Option Value)} {oc25 kV25 dc25 pm25 cd25 ct25 : Value}
    {f26 : Addr} {od26 an26 : Option Addr} {sl26 : Array (Option Value)} {oc26 kV26 dc26 pm26 cd26 ct26 : Value}
    {f27 : Addr} {od27 an27 : Option Addr} {sl27 : Array (Option Value)} {oc27 kV27 dc27 pm27 cd27 ct27 : Value}
    {f28 : Addr} {od28 an28 : Option Addr} {sl28 : Array (Option Value)} {oc28 kV28 dc28 pm28 cd28 ct28 : Value}
    {f29 : Addr} {od29 an29 : Option Addr} {sl29 : Array (Option Value)} {oc29 kV29 dc29 pm29 cd29 ct29 : Value}
    {f30 : Addr} {od30 an30 : Option Addr} {sl30 : Array (Option Value)} {oc30 kV30 dc30 pm30 cd30 ct30 : Value}
    {f31 : Addr} {od31 an31 : Option Addr} {sl31 : Array (Option Value)} {oc31 kV31 dc31 pm31 cd31 ct31 : Value}
    {f32 : Addr} {od32 an32 : Option Addr} {sl32 : Array (Option Value)} {oc32 kV32 dc32 pm32 cd32 ct32 : Value}
    {f33 : Addr} {od33 an33 : Option Addr} {sl33 : Array (Option Value)} {oc33 kV33 dc33 pm33 cd33 ct33 : Value}
    {f34 : Addr} {od34 an34 : Option Addr} {sl34 : Array (Option Value)} {oc34 kV34 dc34 pm34 cd34 ct34 : Value}
    {f35 : Addr} {od35 an35 : Option Addr} {sl35 : Array (Option Value)} {oc35 kV35 dc35 pm35 cd35 ct35 : Value}
    {f36 : Addr} {od36 an36 : Option Addr} {sl36 : Array (Option Value)} {oc36 kV36 dc36 pm36 cd36 ct36 : Value}
    {f37 : Addr} {od37 an37 : Option Addr} {sl37 : Array (Option Value)} {oc37 kV37 dc37 pm37 cd37 ct37 : Value}
    {f38 : Addr} {od38 an38 : Option Addr} {sl38 : Array (Option Value)} {oc38 kV38 dc38 pm38 cd38 ct38 : Value}
    {f39 : Addr} {od39 an39 : Option Addr} {sl39 : Array (Option Value)} {oc39 kV39 dc39 pm39 cd39 ct39 : Value}
    {f40 : Addr} {od40 an40 : Option Addr} {sl40 : Array (Option Value)} {oc40 kV40 dc40 pm40 cd40 ct40 : Value}
    {f41 : Addr} {od41 an41 : Option Addr} {sl41 : Array (Option Value)} {oc41 kV41 dc41 pm41 cd41 ct41 : Value}
    {t_ALL : Tok}
    {t_FIGURES : Tok}
    {t_HEXES : Tok}
    {t_HIGH : Tok}
    {t_IN_CLASSES : Tok}
    {t_LETTERS : Tok}
    {t_LOW : Tok}
    {t_MOST_DEEP : Tok}
    {t_MOST_RULES : Tok}
    {t_MOST_SIZE : Tok}
    {t_MOST_TIMES : Tok}
    {t_SPECIALS : Tok}
    {X_BadBook I_BadBook : Addr} {xod_BadBook xan_BadBook : Option Addr} {xsl_BadBook : Array (Option Value)} {xoc_BadBook xdc_BadBook xpm_BadBook xcd_BadBook xct_BadBook : Value}
    {X_BadText I_BadText : Addr} {xod_BadText xan_BadText : Option Addr} {xsl_BadText : Array (Option Value)} {xoc_BadText xdc_BadText xpm_BadText xcd_BadText xct_BadText : Value}
    (ca_PatternReader : PySem.W.nsIn K mainGlobals "PatternReader" = some (some (.ref C_PatternReader)))
    (pg_PatternReader : PySem.W.plainGet K C_PatternReader Str.empty = true)
    (hd_PatternReader : PySem.W.hasDictIn K C_PatternReader = true)
    (po_PatternReader : PySem.W.plainOver K C_PatternReader = true)
    (sa_PatternReader : PySem.W.findIn K (.ref C_PatternReader) "__setattr__" = some (some (.builtin "object.__setattr__")))
    (mk_PatternReader : PySem.W.makesIn K C_PatternReader = true)
    (kc_PatternReader : PySem.W.keepIn K (.ref C_PatternReader) = true)
    (nf0_PatternReader : PySem.W.findIn K (.ref C_PatternReader) "line" = some none)
    (nf1_PatternReader : PySem.W.findIn K (.ref C_PatternReader) "number" = some none)
    (nf2_PatternReader : PySem.W.findIn K (.ref C_PatternReader) "at" = some none)
    (nf3_PatternReader : PySem.W.findIn K (.ref C_PatternReader) "deep" = some none)
    (a0 : PySem.W.nsIn K mainGlobals "set_of" = some (some (.ref f0)))
    (l0 : K.lookup f0 = some ⟨oc0, od0, .func (PySem.W.fnOf "set_of" "set_of" (defArgs s_set_of) (defBody s_set_of) (defScope s_set_of) .none kV0 dc0 pm0 an0 cd0 ct0), sl0⟩)
    (c0 : PySem.W.codeIn K cd0 "set_of" = true)
    (k0 : PySem.W.keepIn K (.ref f0) = true)
    (a1 : PySem.W.nsIn K mainGlobals "range_set" = some (some (.ref f1)))
    (l1 : K.lookup f1 = some ⟨oc1, od1, .func (PySem.W.fnOf "range_set" "range_set" (defArgs s_range_set) (defBody s_range_set) (defScope s_range_set) .none kV1 dc1 pm1 an1 cd1 ct1), sl1⟩)
    (c1 : PySem.W.codeIn K cd1 "range_set" = true)
    (k1 : PySem.W.keepIn K (.ref f1) = true)
    (a2 : PySem.W.nsIn K mainGlobals "without" = some (some (.ref f2)))
    (l2 : K.lookup f2 = some ⟨oc2, od2, .func (PySem.W.fnOf "without" "without" (defArgs s_without) (defBody s_without) (defScope s_without) .none kV2 dc2 pm2 an2 cd2 ct2), sl2⟩)
    (c2 : PySem.W.codeIn K cd2 "without" = true)
    (k2 : PySem.W.keepIn K (.ref f2) = true)
    (a3 : PySem.W.nsIn K mainGlobals "some" = some (some (.ref f3)))
    (l3 : K.lookup f3 = some ⟨oc3, od3, .func (PySem.W.fnOf "some" "some" (defArgs s_some) (defBody s_some) (defScope s_some) .none kV3 dc3 pm3 an3 cd3 ct3), sl3⟩)
    (c3 : PySem.W.codeIn K cd3 "some" = true)
    (k3 : PySem.W.keepIn K (.ref f3) = true)
    (a4 : PySem.W.nsIn K mainGlobals "row" = some (some (.ref f4)))
    (l4 : K.lookup f4 = some ⟨oc4, od4, .func (PySem.W.fnOf "row" "row" (defArgs s_row) (defBody s_row) (defScope s_row) .none kV4 dc4 pm4 an4 cd4 ct4), sl4⟩)
    (c4 : PySem.W.codeIn K cd4 "row" = true)
    (k4 : PySem.W.keepIn K (.ref f4) = true)
    (a5 : PySem.W.nsIn K mainGlobals "flat" = some (some (.ref f5)))
    (l5 : K.lookup f5 = some ⟨oc5, od5, .func (PySem.W.fnOf "flat" "flat" (defArgs s_flat) (defBody s_flat) (defScope s_flat) .none kV5 dc5 pm5 an5 cd5 ct5), sl5⟩)
    (c5 : PySem.W.codeIn K cd5 "flat" = true)
    (k5 : PySem.W.keepIn K (.ref f5) = true)
    (a6 : PySem.W.nsIn K mainGlobals "sets_together" = some (some (.ref f6)))
    (l6 : K.lookup f6 = some ⟨oc6, od6, .func (PySem.W.fnOf "sets_together" "sets_together" (defArgs s_sets_together) (defBody s_sets_together) (defScope s_sets_together) .none kV6 dc6 pm6 an6 cd6 ct6), sl6⟩)
    (c6 : PySem.W.codeIn K cd6 "sets_together" = true)
    (k6 : PySem.W.keepIn K (.ref f6) = true)
    (a7 : PySem.W.nsIn K mainGlobals "any_of" = some (some (.ref f7)))
    (l7 : K.lookup f7 = some ⟨oc7, od7, .func (PySem.W.fnOf "any_of" "any_of" (defArgs s_any_of) (defBody s_any_of) (defScope s_any_of) .none kV7 dc7 pm7 an7 cd7 ct7), sl7⟩)
    (c7 : PySem.W.codeIn K cd7 "any_of" = true)
    (k7 : PySem.W.keepIn K (.ref f7) = true)
    (a8 : PySem.W.nsIn K mainGlobals "all_of" = some (some (.ref f8)))
    (l8 : K.lookup f8 = some ⟨oc8, od8, .func (PySem.W.fnOf "all_of" "all_of" (defArgs s_all_of) (defBody s_all_of) (defScope s_all_of) .none kV8 dc8 pm8 an8 cd8 ct8), sl8⟩)
    (c8 : PySem.W.codeIn K cd8 "all_of" = true)
    (k8 : PySem.W.keepIn K (.ref f8) = true)
    (a9 : PySem.W.nsIn K mainGlobals "but" = some (some (.ref f9)))
    (l9 : K.lookup f9 = some ⟨oc9, od9, .func (PySem.W.fnOf "but" "but" (defArgs s_but) (defBody s_but) (defScope s_but) .none kV9 dc9 pm9 an9 cd9 ct9), sl9⟩)
    (c9 : PySem.W.codeIn K cd9 "but" = true)
    (k9 : PySem.W.keepIn K (.ref f9) = true)
    (a10 : PySem.W.nsIn K mainGlobals "again" = some (some (.ref f10)))
    (l10 : K.lookup f10 = some ⟨oc10, od10, .func (PySem.W.fnOf "again" "again" (defArgs s_again) (defBody s_again) (defScope s_again) .none kV10 dc10 pm10 an10 cd10 ct10), sl10⟩)
    (c10 : PySem.W.codeIn K cd10 "again" = true)
    (k10 : PySem.W.keepIn K (.ref f10) = true)
    (a11 : PySem.W.nsIn K mainGlobals "times" = some (some (.ref f11)))
    (l11 : K.lookup f11 = some ⟨oc11, od11, .func (PySem.W.fnOf "times" "times" (defArgs s_times) (defBody s_times) (defScope s_times) .none kV11 dc11 pm11 an11 cd11 ct11), sl11⟩)
    (c11 : PySem.W.codeIn K cd11 "times" = true)
    (k11 : PySem.W.keepIn K (.ref f11) = true)
    (a12 : PySem.W.nsIn K mainGlobals "size_of" = some (some (.ref f12)))
    (l12 : K.lookup f12 = some ⟨oc12, od12, .func (PySem.W.fnOf "size_of" "size_of" (defArgs s_size_of) (defBody s_size_of) (defScope s_size_of) .none kV12 dc12 pm12 an12 cd12 ct12), sl12⟩)
    (c12 : PySem.W.codeIn K cd12 "size_of" = true)
    (k12 : PySem.W.keepIn K (.ref f12) = true)
    (a13 : PySem.W.nsIn K mainGlobals "has_empty" = some (some (.ref f13)))
    (l13 : K.lookup f13 = some ⟨oc13, od13, .func (PySem.W.fnOf "has_empty" "has_empty" (defArgs s_has_empty) (defBody s_has_empty) (defScope s_has_empty) .none kV13 dc13 pm13 an13 cd13 ct13), sl13⟩)
    (c13 : PySem.W.codeIn K cd13 "has_empty" = true)
    (k13 : PySem.W.keepIn K (.ref f13) = true)
    (a14 : PySem.W.nsIn K mainGlobals "byte_of" = some (some (.ref f14)))
    (l14 : K.lookup f14 = some ⟨oc14, od14, .func (PySem.W.fnOf "byte_of" "byte_of" (defArgs s_byte_of) (defBody s_byte_of) (defScope s_byte_of) .none kV14 dc14 pm14 an14 cd14 ct14), sl14⟩)
    (c14 : PySem.W.codeIn K cd14 "byte_of" = true)
    (k14 : PySem.W.keepIn K (.ref f14) = true)
    (a15 : PySem.W.findIn K (.ref C_PatternReader) "__init__" = some (some (.ref f15)))
    (i15 : PySem.W.isFn K (.ref f15) = true)
    (l15 : K.lookup f15 = some ⟨oc15, od15, .func (PySem.W.fnOf "__init__" "PatternReader.__init__" (defArgs s_PatternReader___init__) (defBody s_PatternReader___init__) (defScope s_PatternReader___init__) .none kV15 dc15 pm15 an15 cd15 ct15), sl15⟩)
    (c15 : PySem.W.codeIn K cd15 "PatternReader.__init__" = true)
    (k15 : PySem.W.keepIn K (.ref f15) = true)
    (a16 : PySem.W.findIn K (.ref C_PatternReader) "wrong" = some (some (.ref f16)))
    (i16 : PySem.W.isFn K (.ref f16) = true)
    (l16 : K.lookup f16 = some ⟨oc16, od16, .func (PySem.W.fnOf "wrong" "PatternReader.wrong" (defArgs s_PatternReader_wrong) (defBody s_PatternReader_wrong) (defScope s_PatternReader_wrong) .none kV16 dc16 pm16 an16 cd16 ct16), sl16⟩)
    (c16 : PySem.W.codeIn K cd16 "PatternReader.wrong" = true)
    (k16 : PySem.W.keepIn K (.ref f16) = true)
    (a17 : PySem.W.findIn K (.ref C_PatternReader) "skip" = some (some (.ref f17)))
    (i17 : PySem.W.isFn K (.ref f17) = true)
    (l17 : K.lookup f17 = some ⟨oc17, od17, .func (PySem.W.fnOf "skip" "PatternReader.skip" (defArgs s_PatternReader_skip) (defBody s_PatternReader_skip) (defScope s_PatternReader_skip) .none kV17 dc17 pm17 an17 cd17 ct17), sl17⟩)
    (c17 : PySem.W.codeIn K cd17 "PatternReader.skip" = true)
    (k17 : PySem.W.keepIn K (.ref f17) = true)
    (a18 : PySem.W.findIn K (.ref C_PatternReader) "sign" = some (some (.ref f18)))
    (i18 : PySem.W.isFn K (.ref f18) = true)
    (l18 : K.lookup f18 = some ⟨oc18, od18, .func (PySem.W.fnOf "sign" "PatternReader.sign" (defArgs s_PatternReader_sign) (defBody s_PatternReader_sign) (defScope s_PatternReader_sign) .none kV18 dc18 pm18 an18 cd18 ct18), sl18⟩)
    (c18 : PySem.W.codeIn K cd18 "PatternReader.sign" = true)
    (k18 : PySem.W.keepIn K (.ref f18) = true)
    (a19 : PySem.W.findIn K (.ref C_PatternReader) "took" = some (some (.ref f19)))
    (i19 : PySem.W.isFn K (.ref f19) = true)
    (l19 : K.lookup f19 = some ⟨oc19, od19, .func (PySem.W.fnOf "took" "PatternReader.took" (defArgs s_PatternReader_took) (defBody s_PatternReader_took) (defScope s_PatternReader_took) .none kV19 dc19 pm19 an19 cd19 ct19), sl19⟩)
    (c19 : PySem.W.codeIn K cd19 "PatternReader.took" = true)
    (k19 : PySem.W.keepIn K (.ref f19) = true)
    (a20 : PySem.W.findIn K (.ref C_PatternReader) "either" = some (some (.ref f20)))
    (i20 : PySem.W.isFn K (.ref f20) = true)
    (l20 : K.lookup f20 = some ⟨oc20, od20, .func (PySem.W.fnOf "either" "PatternReader.either" (defArgs s_PatternReader_either) (defBody s_PatternReader_either) (defScope s_PatternReader_either) .none kV20 dc20 pm20 an20 cd20 ct20), sl20⟩)
    (c20 : PySem.W.codeIn K cd20 "PatternReader.either" = true)
    (k20 : PySem.W.keepIn K (.ref f20) = true)
    (a21 : PySem.W.findIn K (.ref C_PatternReader) "both" = some (some (.ref f21)))
    (i21 : PySem.W.isFn K (.ref f21) = true)
    (l21 : K.lookup f21 = some ⟨oc21, od21, .func (PySem.W.fnOf "both" "PatternReader.both" (defArgs s_PatternReader_both) (defBody s_PatternReader_both) (defScope s_PatternReader_both) .none kV21 dc21 pm21 an21 cd21 ct21), sl21⟩)
    (c21 : PySem.W.codeIn K cd21 "PatternReader.both" = true)
    (k21 : PySem.W.keepIn K (.ref f21) = true)
    (a22 : PySem.W.findIn K (.ref C_PatternReader) "pieces" = some (some (.ref f22)))
    (i22 : PySem.W.isFn K (.ref f22) = true)
    (l22 : K.lookup f22 = some ⟨oc22, od22, .func (PySem.W.fnOf "pieces" "PatternReader.pieces" (defArgs s_PatternReader_pieces) (defBody s_PatternReader_pieces) (defScope s_PatternReader_pieces) .none kV22 dc22 pm22 an22 cd22 ct22), sl22⟩)
    (c22 : PySem.W.codeIn K cd22 "PatternReader.pieces" = true)
    (k22 : PySem.W.keepIn K (.ref f22) = true)
    (a23 : PySem.W.findIn K (.ref C_PatternReader) "piece" = some (some (.ref f23)))
    (i23 : PySem.W.isFn K (.ref f23) = true)
    (l23 : K.lookup f23 = some ⟨oc23, od23, .func (PySem.W.fnOf "piece" "PatternReader.piece" (defArgs s_PatternReader_piece) (defBody s_PatternReader_piece) (defScope s_PatternReader_piece) .none kV23 dc23 pm23 an23 cd23 ct23), sl23⟩)
    (c23 : PySem.W.codeIn K cd23 "PatternReader.piece" = true)
    (k23 : PySem.W.keepIn K (.ref f23) = true)
    (a24 : PySem.W.findIn K (.ref C_PatternReader) "small" = some (some (.ref f24)))
    (i24 : PySem.W.isFn K (.ref f24) = true)
    (l24 : K.lookup f24 = some ⟨oc24, od24, .func (PySem.W.fnOf "small" "PatternReader.small" (defArgs s_PatternReader_small) (defBody s_PatternReader_small) (defScope s_PatternReader_small) .none kV24 dc24 pm24 an24 cd24 ct24), sl24⟩)
    (c24 : PySem.W.codeIn K cd24 "PatternReader.small" = true)
    (k24 : PySem.W.keepIn K (.ref f24) = true)
    (a25 : PySem.W.findIn K (.ref C_PatternReader) "repeated" = some (some (.ref f25)))
    (i25 : PySem.W.isFn K (.ref f25) = true)
    (l25 : K.lookup f25 = some ⟨oc25, od25, .func (PySem.W.fnOf "repeated" "PatternReader.repeated" (defArgs s_PatternReader_repeated) (defBody s_PatternReader_repeated) (defScope s_PatternReader_repeated) .none kV25 dc25 pm25 an25 cd25 ct25), sl25⟩)
    (c25 : PySem.W.codeIn K cd25 "PatternReader.repeated" = true)
    (k25 : PySem.W.keepIn K (.ref f25) = true)
    (a26 : PySem.W.findIn K (.ref C_PatternReader) "number_told" = some (some (.ref f26)))
    (i26 : PySem.W.isFn K (.ref f26) = true)
    (l26 : K.lookup f26 = some ⟨oc26, od26, .func (PySem.W.fnOf "number_told" "PatternReader.number_told" (defArgs s_PatternReader_number_told) (defBody s_PatternReader_number_told) (defScope s_PatternReader_number_told) .none kV26 dc26 pm26 an26 cd26 ct26), sl26⟩)
    (c26 : PySem.W.codeIn K cd26 "PatternReader.number_told" = true)
    (k26 : PySem.W.keepIn K (.ref f26) = true)
    (a27 : PySem.W.findIn K (.ref C_PatternReader) "atom" = some (some (.ref f27)))
    (i27 : PySem.W.isFn K (.ref f27) = true)
    (l27 : K.lookup f27 = some ⟨oc27, od27, .func (PySem.W.fnOf "atom" "PatternReader.atom" (defArgs s_PatternReader_atom) (defBody s_PatternReader_atom) (defScope s_PatternReader_atom) .none kV27 dc27 pm27 an27 cd27 ct27), sl27⟩)
    (c27 : PySem.W.codeIn K cd27 "PatternReader.atom" = true)
    (k27 : PySem.W.keepIn K (.ref f27) = true)
    (a28 : PySem.W.findIn K (.ref C_PatternReader) "byte_told" = some (some (.ref f28)))
    (i28 : PySem.W.isFn K (.ref f28) = true)
    (l28 : K.lookup f28 = some ⟨oc28, od28, .func (PySem.W.fnOf "byte_told" "PatternReader.byte_told" (defArgs s_PatternReader_byte_told) (defBody s_PatternReader_byte_told) (defScope s_PatternReader_byte_told) .none kV28 dc28 pm28 an28 cd28 ct28), sl28⟩)
    (c28 : PySem.W.codeIn K cd28 "PatternReader.byte_told" = true)
    (k28 : PySem.W.keepIn K (.ref f28) = true)
    (a29 : PySem.W.findIn K (.ref C_PatternReader) "some_told" = some (some (.ref f29)))
    (i29 : PySem.W.isFn K (.ref f29) = true)
    (l29 : K.lookup f29 = some ⟨oc29, od29, .func (PySem.W.fnOf "some_told" "PatternReader.some_told" (defArgs s_PatternReader_some_told) (defBody s_PatternReader_some_told) (defScope s_PatternReader_some_told) .none kV29 dc29 pm29 an29 cd29 ct29), sl29⟩)
    (c29 : PySem.W.codeIn K cd29 "PatternReader.some_told" = true)
    (k29 : PySem.W.keepIn K (.ref f29) = true)
    (a30 : PySem.W.findIn K (.ref C_PatternReader) "class_byte" = some (some (.ref f30)))
    (i30 : PySem.W.isFn K (.ref f30) = true)
    (l30 : K.lookup f30 = some ⟨oc30, od30, .func (PySem.W.fnOf "class_byte" "PatternReader.class_byte" (defArgs s_PatternReader_class_byte) (defBody s_PatternReader_class_byte) (defScope s_PatternReader_class_byte) .none kV30 dc30 pm30 an30 cd30 ct30), sl30⟩)
    (c30 : PySem.W.codeIn K cd30 "PatternReader.class_byte" = true)
    (k30 : PySem.W.keepIn K (.ref f30) = true)
    (a31 : PySem.W.nsIn K mainGlobals "name_end" = some (some (.ref f31)))
    (l31 : K.lookup f31 = some ⟨oc31, od31, .func (PySem.W.fnOf "name_end" "name_end" (defArgs s_name_end) (defBody s_name_end) (defScope s_name_end) .none kV31 dc31 pm31 an31 cd31 ct31), sl31⟩)
    (c31 : PySem.W.codeIn K cd31 "name_end" = true)
    (k31 : PySem.W.keepIn K (.ref f31) = true)
    (a32 : PySem.W.nsIn K mainGlobals "read_rule" = some (some (.ref f32)))
    (l32 : K.lookup f32 = some ⟨oc32, od32, .func (PySem.W.fnOf "read_rule" "read_rule" (defArgs s_read_rule) (defBody s_read_rule) (defScope s_read_rule) .none kV32 dc32 pm32 an32 cd32 ct32), sl32⟩)
    (c32 : PySem.W.codeIn K cd32 "read_rule" = true)
    (k32 : PySem.W.keepIn K (.ref f32) = true)
    (a33 : PySem.W.nsIn K mainGlobals "check_book" = some (some (.ref f33)))
    (l33 : K.lookup f33 = some ⟨oc33, od33, .func (PySem.W.fnOf "check_book" "check_book" (defArgs s_check_book) (defBody s_check_book) (defScope s_check_book) .none kV33 dc33 pm33 an33 cd33 ct33), sl33⟩)
    (c33 : PySem.W.codeIn K cd33 "check_book" = true)
    (k33 : PySem.W.keepIn K (.ref f33) = true)
    (a34 : PySem.W.nsIn K mainGlobals "read_book" = some (some (.ref f34)))
    (l34 : K.lookup f34 = some ⟨oc34, od34, .func (PySem.W.fnOf "read_book" "read_book" (defArgs s_read_book) (defBody s_read_book) (defScope s_read_book) .none kV34 dc34 pm34 an34 cd34 ct34), sl34⟩)
    (c34 : PySem.W.codeIn K cd34 "read_book" = true)
    (k34 : PySem.W.keepIn K (.ref f34) = true)
    (a35 : PySem.W.nsIn K mainGlobals "_law_cell_at" = some (some (.ref f35)))
    (l35 : K.lookup f35 = some ⟨oc35, od35, .func (PySem.W.fnOf "_law_cell_at" "_law_cell_at" (defArgs s__law_cell_at) (defBody s__law_cell_at) (defScope s__law_cell_at) .none kV35 dc35 pm35 an35 cd35 ct35), sl35⟩)
    (c35 : PySem.W.codeIn K cd35 "_law_cell_at" = true)
    (k35 : PySem.W.keepIn K (.ref f35) = true)
    (a36 : PySem.W.nsIn K mainGlobals "_law_draw" = some (some (.ref f36)))
    (l36 : K.lookup f36 = some ⟨oc36, od36, .func (PySem.W.fnOf "_law_draw" "_law_draw" (defArgs s__law_draw) (defBody s__law_draw) (defScope s__law_draw) .none kV36 dc36 pm36 an36 cd36 ct36), sl36⟩)
    (c36 : PySem.W.codeIn K cd36 "_law_draw" = true)
    (k36 : PySem.W.keepIn K (.ref f36) = true)
    (a37 : PySem.W.nsIn K mainGlobals "_law_number" = some (some (.ref f37)))
    (l37 : K.lookup f37 = some ⟨oc37, od37, .func (PySem.W.fnOf "_law_number" "_law_number" (defArgs s__law_number) (defBody s__law_number) (defScope s__law_number) .none kV37 dc37 pm37 an37 cd37 ct37), sl37⟩)
    (c37 : PySem.W.codeIn K cd37 "_law_number" = true)
    (k37 : PySem.W.keepIn K (.ref f37) = true)
    (a38 : PySem.W.nsIn K mainGlobals "_law_next" = some (some (.ref f38)))
    (l38 : K.lookup f38 = some ⟨oc38, od38, .func (PySem.W.fnOf "_law_next" "_law_next" (defArgs s__law_next) (defBody s__law_next) (defScope s__law_next) .none kV38 dc38 pm38 an38 cd38 ct38), sl38⟩)
    (c38 : PySem.W.codeIn K cd38 "_law_next" = true)
    (k38 : PySem.W.keepIn K (.ref f38) = true)
    (a39 : PySem.W.nsIn K mainGlobals "_law_pick" = some (some (.ref f39)))
    (l39 : K.lookup f39 = some ⟨oc39, od39, .func (PySem.W.fnOf "_law_pick" "_law_pick" (defArgs s__law_pick) (defBody s__law_pick) (defScope s__law_pick) .none kV39 dc39 pm39 an39 cd39 ct39), sl39⟩)
    (c39 : PySem.W.codeIn K cd39 "_law_pick" = true)
    (k39 : PySem.W.keepIn K (.ref f39) = true)
    (a40 : PySem.W.nsIn K mainGlobals "_law_told" = some (some (.ref f40)))
    (l40 : K.lookup f40 = some ⟨oc40, od40, .func (PySem.W.fnOf "_law_told" "_law_told" (defArgs s__law_told) (defBody s__law_told) (defScope s__law_told) .none kV40 dc40 pm40 an40 cd40 ct40), sl40⟩)
    (c40 : PySem.W.codeIn K cd40 "_law_told" = true)
    (k40 : PySem.W.keepIn K (.ref f40) = true)
    (a41 : PySem.W.nsIn K mainGlobals "law" = some (some (.ref f41)))
    (l41 : K.lookup f41 = some ⟨oc41, od41, .func (PySem.W.fnOf "law" "law" (defArgs s_law) (defBody s_law) (defScope s_law) .none kV41 dc41 pm41 an41 cd41 ct41), sl41⟩)
    (c41 : PySem.W.codeIn K cd41 "law" = true)
    (k41 : PySem.W.keepIn K (.ref f41) = true)
    (z_all : PySem.W.nsIn K mainGlobals "all" = some none)
    (z_any : PySem.W.nsIn K mainGlobals "any" = some none)
    (z_enumerate : PySem.W.nsIn K mainGlobals "enumerate" = some none)
    (z_int : PySem.W.nsIn K mainGlobals "int" = some none)
    (z_isinstance : PySem.W.nsIn K mainGlobals "isinstance" = some none)
    (z_len : PySem.W.nsIn K mainGlobals "len" = some none)
    (z_max : PySem.W.nsIn K mainGlobals "max" = some none)
    (z_range : PySem.W.nsIn K mainGlobals "range" = some none)
    (z_sorted : PySem.W.nsIn K mainGlobals "sorted" = some none)
    (z_str : PySem.W.nsIn K mainGlobals "str" = some none)
    (z_sum : PySem.W.nsIn K mainGlobals "sum" = some none)
    (z_tuple : PySem.W.nsIn K mainGlobals "tuple" = some none)
    (q_ALL : PySem.W.nsIn K mainGlobals "ALL" = some (some (.int 115792089237316195423570985008687907853269984665640564039457584007913129639935 t_ALL)))
    (q_FIGURES : PySem.W.nsIn K mainGlobals "FIGURES" = some (some (.str "0123456789" t_FIGURES)))
    (q_HEXES : PySem.W.nsIn K mainGlobals "HEXES" = some (some (.str "0123456789abcdef" t_HEXES)))
    (q_HIGH : PySem.W.nsIn K mainGlobals "HIGH" = some (some (.str "&'()*+,-./0123456789:;<=>?@ABCDEFGHIJKLMNOPQRSTUVWXYZ[\\]^_`abcdefghijklmnopqrstuvwxyz{|}~" t_HIGH)))
    (q_IN_CLASSES : PySem.W.nsIn K mainGlobals "IN_CLASSES" = some (some (.str " \\]^-" t_IN_CLASSES)))
    (q_LETTERS : PySem.W.nsIn K mainGlobals "LETTERS" = some (some (.str "abcdefghijklmnopqrstuvwxyzABCDEFGHIJKLMNOPQRSTUVWXYZ_" t_LETTERS)))
    (q_LOW : PySem.W.nsIn K mainGlobals "LOW" = some (some (.str " !\"#$" t_LOW)))
    (q_MOST_DEEP : PySem.W.nsIn K mainGlobals "MOST_DEEP" = some (some (.int 30 t_MOST_DEEP)))
    (q_MOST_RULES : PySem.W.nsIn K mainGlobals "MOST_RULES" = some (some (.int 8 t_MOST_RULES)))
    (q_MOST_SIZE : PySem.W.nsIn K mainGlobals "MOST_SIZE" = some (some (.int 300 t_MOST_SIZE)))
    (q_MOST_TIMES : PySem.W.nsIn K mainGlobals "MOST_TIMES" = some (some (.int 20 t_MOST_TIMES)))
    (q_SPECIALS : PySem.W.nsIn K mainGlobals "SPECIALS" = some (some (.str " \\.[](){}|&!*+?^$#" t_SPECIALS)))
    (xa_BadBook : PySem.W.nsIn K mainGlobals "BadBook" = some (some (.ref X_BadBook)))
    (xini_BadBook : PySem.W.excInitIn K X_BadBook ESX.exTail "Exception.__new__" = true)
    (xovr_BadBook : PySem.W.excOver K X_BadBook ESX.exTail = true)
    (xsa_BadBook : PySem.W.findIn K (.ref X_BadBook) "__setattr__" = some (some (.builtin "object.__setattr__")))
    (xga_BadBook : PySem.W.findIn K (.ref X_BadBook) "__getattribute__" = some (some (.builtin "BaseException.__getattribute__")))
    (xgg_BadBook : PySem.W.findIn K (.ref X_BadBook) "__getattr__" = some none)
    (xhd_BadBook : PySem.W.hasDictIn K X_BadBook = true)
    (xno0_BadBook : PySem.W.findIn K (.ref X_BadBook) "name" = some none)
    (xin_BadBook : PySem.W.findIn K (.ref X_BadBook) "__init__" = some (some (.ref I_BadBook)))
    (xti_BadBook : PySem.W.typeIn K (.ref I_BadBook) = some (.type "function"))
    (xl_BadBook : K.lookup I_BadBook = some ⟨xoc_BadBook, xod_BadBook, .func (PySem.W.fnOf "__init__" "BadBook.__init__" (defArgs si_BadBook) (defBody si_BadBook) (defScope si_BadBook) .none .none xdc_BadBook xpm_BadBook xan_BadBook xcd_BadBook xct_BadBook), xsl_BadBook⟩)
    (xc_BadBook : PySem.W.codeIn K xcd_BadBook "BadBook.__init__" = true)
    (xk_BadBook : PySem.W.keepIn K (.ref X_BadBook) = true)
    (xe_BadBook : PySem.W.subIn K (.ref X_BadBook) (.type "BaseException") = some true)
    (xty_BadBook : PySem.W.typeIn K (.ref X_BadBook) = some (.type "type"))
    (xic_BadBook : PySem.W.isClsIn K X_BadBook = true)
    (xs_BadBook : PySem.W.subIn K (.ref X_BadBook) (.ref X_BadBook) = some true)
    (xa_BadText : PySem.W.nsIn K mainGlobals "BadText" = some (some (.ref X_BadText)))
    (xini_BadText : PySem.W.excInitIn K X_BadText ESX.exTail "Exception.__new__" = true)
    (xovr_BadText : PySem.W.excOver K X_BadText ESX.exTail = true)
    (xsa_BadText : PySem.W.findIn K (.ref X_BadText) "__setattr__" = some (some (.builtin "object.__setattr__")))
    (xga_BadText : PySem.W.findIn K (.ref X_BadText) "__getattribute__" = some (some (.builtin "BaseException.__getattribute__")))
    (xgg_BadText : PySem.W.findIn K (.ref X_BadText) "__getattr__" = some none)
    (xhd_BadText : PySem.W.hasDictIn K X_BadText = true)
    (xno0_BadText : PySem.W.findIn K (.ref X_BadText) "line" = some none)
    (xno1_BadText : PySem.W.findIn K (.ref X_BadText) "column" = some none)
    (xin_BadText : PySem.W.findIn K (.ref X_BadText) "__init__" = some (some (.ref I_BadText)))
    (xti_BadText : PySem.W.typeIn K (.ref I_BadText) = some (.type "function"))
    (xl_BadText : K.lookup I_BadText = some ⟨xoc_BadText, xod_BadText, .func (PySem.W.fnOf "__init__" "BadText.__init__" (defArgs si_BadText) (defBody si_BadText) (defScope si_BadText) .none .none xdc_BadText xpm_BadText xan_BadText xcd_BadText xct_BadText), xsl_BadText⟩)
    (xc_BadText : PySem.W.codeIn K xcd_BadText "BadText.__init__" = true)
    (xk_BadText : PySem.W.keepIn K (.ref X_BadText) = true)
    (xe_BadText : PySem.W.subIn K (.ref X_BadText) (.type "BaseException") = some true)
    (xty_BadText : PySem.W.typeIn K (.ref X_BadText) = some (.type "type"))
    (xic_BadText : PySem.W.isClsIn K X_BadText = true)
    (xs_BadText : PySem.W.subIn K (.ref X_BadText) (.ref X_BadText) = some true)
    (xap_BadText_BadBook : PySem.W.subIn K (.ref X_BadText) (.ref X_BadBook) = some false)
    (nol : NoL K)
    (good : ∀ ns : List Int, ns.length ≤ 63 → ∃ s', f_law (lawS 11 ns) = .rt (.bool true) s') :
    ∃ fd : FuncData, (∀ (s : Shared) (v : Value), BindsTo s fd ⟨[v], []⟩ [("_law_script", v)]) ∧ ∀ base : Heap, K.In base → base.Ns mainGlobals mg → FnG l.prog w K mg base (L2.CX l.prog w) 60 fa fd ["_law_script"] (spLaw K) := by
  letI : WI := ⟨w⟩
  have e := hfa.symm.trans (PySem.W.mg_of X G a41)
  cases e
  have F0 := fun_mk (st := s_set_of) l0 c0 k0
  have b0 := F0.binds (ps := ["numbers"]) fun _ _ _ _ _ _ us hl => match us, hl with | [_], _ => rfl
  have F1 := fun_mk (st := s_range_set) l1 c1 k1
  have b1 := F1.binds (ps := ["first", "last"]) fun _ _ _ _ _ _ us hl => match us, hl with | [_, _], _ => rfl
  have F2 := fun_mk (st := s_without) l2 c2 k2
  have b2 := F2.binds (ps := ["some"]) fun _ _ _ _ _ _ us hl => match us, hl with | [_], _ => rfl
  have F3 := fun_mk (st := s_some) l3 c3 k3
  have b3 := F3.binds (ps := ["told"]) fun _ _ _ _ _ _ us hl => match us, hl with | [_], _ => rfl
  have F4 := fun_mk (st := s_row) l4 c4 k4
  have b4 := F4.binds (ps := ["one", "other"]) fun _ _ _ _ _ _ us hl => match us, hl with | [_, _], _ => rfl
  have F5 := fun_mk (st := s_flat) l5 c5 k5
  have b5 := F5.binds (ps := ["word", "trees"]) fun _ _ _ _ _ _ us hl => match us, hl with | [_, _], _ => rfl
  have F6 := fun_mk (st := s_sets_together) l6 c6 k6
  have b6 := F6.binds (ps := ["word", "trees"]) fun _ _ _ _ _ _ us hl => match us, hl with | [_, _], _ => rfl
  have F7 := fun_mk (st := s_any_of) l7 c7 k7
  have b7 := F7.binds (ps := ["trees"]) fun _ _ _ _ _ _ us hl => match us, hl with | [_], _ => rfl
  have F8 := fun_mk (st := s_all_of) l8 c8 k8
  have b8 := F8.binds (ps := ["trees"]) fun _ _ _ _ _ _ us hl => match us, hl with | [_], _ => rfl
  have F9 := fun_mk (st := s_but) l9 c9 k9
  have b9 := F9.binds (ps := ["tree"]) fun _ _ _ _ _ _ us hl => match us, hl with | [_], _ => rfl
  have F10 := fun_mk (st := s_again) l10 c10 k10
  have b10 := F10.binds (ps := ["tree"]) fun _ _ _ _ _ _ us hl => match us, hl with | [_], _ => rfl
  have F11 := fun_mk (st := s_times) l11 c11 k11
  have b11 := F11.binds (ps := ["tree", "least", "most"]) fun _ _ _ _ _ _ us hl => match us, hl with | [_, _, _], _ => rfl
  have F12 := fun_mk (st := s_size_of) l12 c12 k12
  have b12 := F12.binds (ps := ["tree"]) fun _ _ _ _ _ _ us hl => match us, hl with | [_], _ => rfl
  have F13 := fun_mk (st := s_has_empty) l13 c13 k13
  have b13 := F13.binds (ps := ["tree"]) fun _ _ _ _ _ _ us hl => match us, hl with | [_], _ => rfl
  have F14 := fun_mk (st := s_byte_of) l14 c14 k14
  have b14 := F14.binds (ps := ["sign"]) fun _ _ _ _ _ _ us hl => match us, hl with | [_], _ => rfl
  have F15 := fun_mk (st := s_PatternReader___init__) l15 c15 k15
  have b15 := F15.binds (ps := ["self", "line", "number", "at"]) fun _ _ _ _ _ _ us hl => match us, hl with | [_, _, _, _], _ => rfl
  have F16 := fun_mk (st := s_PatternReader_wrong) l16 c16 k16
  have b16 := F16.binds (ps := ["self", "at"]) fun _ _ _ _ _ _ us hl => match us, hl with | [_, _], _ => rfl
  have F17 := fun_mk (st := s_PatternReader_skip) l17 c17 k17
  have b17 := F17.binds (ps := ["self"]) fun _ _ _ _ _ _ us hl => match us, hl with | [_], _ => rfl
  have F18 := fun_mk (st := s_PatternReader_sign) l18 c18 k18
  have b18 := F18.binds (ps := ["self"]) fun _ _ _ _ _ _ us hl => match us, hl with | [_], _ => rfl
  have F19 := fun_mk (st := s_PatternReader_took) l19 c19 k19
  have b19 := F19.binds (ps := ["self", "sign"]) fun _ _ _ _ _ _ us hl => match us, hl with | [_, _], _ => rfl
  have F20 := fun_mk (st := s_PatternReader_either) l20 c20 k20
  have b20 := F20.binds (ps := ["self"]) fun _ _ _ _ _ _ us hl => match us, hl with | [_], _ => rfl
  have F21 := fun_mk (st := s_PatternReader_both) l21 c21 k21
  have b21 := F21.binds (ps := ["self"]) fun _ _ _ _ _ _ us hl => match us, hl with | [_], _ => rfl
  have F22 := fun_mk (st := s_PatternReader_pieces) l22 c22 k22
  have b22 := F22.binds (ps := ["self"]) fun _ _ _ _ _ _ us hl => match us, hl with | [_], _ => rfl
  have F23 := fun_mk (st := s_PatternReader_piece) l23 c23 k23
  have b23 := F23.binds (ps := ["self"]) fun _ _ _ _ _ _ us hl => match us, hl with | [_], _ => rfl
  have F24 := fun_mk (st := s_PatternReader_small) l24 c24 k24
  have b24 := F24.binds (ps := ["self", "tree", "at"]) fun _ _ _ _ _ _ us hl => match us, hl with | [_, _, _], _ => rfl
  have F25 := fun_mk (st := s_PatternReader_repeated) l25 c25 k25
  have b25 := F25.binds (ps := ["self", "tree"]) fun _ _ _ _ _ _ us hl => match us, hl with | [_, _], _ => rfl
  have F26 := fun_mk (st := s_PatternReader_number_told) l26 c26 k26
  have b26 := F26.binds (ps := ["self"]) fun _ _ _ _ _ _ us hl => match us, hl with | [_], _ => rfl
  have F27 := fun_mk (st := s_PatternReader_atom) l27 c27 k27
  have b27 := F27.binds (ps := ["self"]) fun _ _ _ _ _ _ us hl => match us, hl with | [_], _ => rfl
  have F28 := fun_mk (st := s_PatternReader_byte_told) l28 c28 k28
  have b28 := F28.binds (ps := ["self", "specials"]) fun _ _ _ _ _ _ us hl => match us, hl with | [_, _], _ => rfl
  have F29 := fun_mk (st := s_PatternReader_some_told) l29 c29 k29
  have b29 := F29.binds (ps := ["self"]) fun _ _ _ _ _ _ us hl => match us, hl with | [_], _ => rfl
  have F30 := fun_mk (st := s_PatternReader_class_byte) l30 c30 k30
  have b30 := F30.binds (ps := ["self"]) fun _ _ _ _ _ _ us hl => match us, hl with | [_], _ => rfl
  have F31 := fun_mk (st := s_name_end) l31 c31 k31
  have b31 := F31.binds (ps := ["line", "number", "at"]) fun _ _ _ _ _ _ us hl => match us, hl with | [_, _, _], _ => rfl
  have F32 := fun_mk (st := s_read_rule) l32 c32 k32
  have b32 := F32.binds (ps := ["line", "number"]) fun _ _ _ _ _ _ us hl => match us, hl with | [_, _], _ => rfl
  have F33 := fun_mk (st := s_check_book) l33 c33 k33
  have b33 := F33.binds (ps := ["book"]) fun _ _ _ _ _ _ us hl => match us, hl with | [_], _ => rfl
  have F34 := fun_mk (st := s_read_book) l34 c34 k34
  have b34 := F34.binds (ps := ["text"]) fun _ _ _ _ _ _ us hl => match us, hl with | [_], _ => rfl
  have F35 := fun_mk (st := s__law_cell_at) l35 c35 k35
  have b35 := F35.binds (ps := ["_law_script", "_law_k"]) fun _ _ _ _ _ _ us hl => match us, hl with | [_, _], _ => rfl
  have F36 := fun_mk (st := s__law_draw) l36 c36 k36
  have b36 := F36.binds (ps := ["_law_cell", "_law_k", "_law_bound"]) fun _ _ _ _ _ _ us hl => match us, hl with | [_, _, _], _ => rfl
  have F37 := fun_mk (st := s__law_number) l37 c37 k37
  have b37 := F37.binds (ps := ["_law_cell", "_law_k", "_law_bound"]) fun _ _ _ _ _ _ us hl => match us, hl with | [_, _, _], _ => rfl
  have F38 := fun_mk (st := s__law_next) l38 c38 k38
  have b38 := F38.binds (ps := ["_law_draw_here", "_law_bound"]) fun _ _ _ _ _ _ us hl => match us, hl with | [_, _], _ => rfl
  have F39 := fun_mk (st := s__law_pick) l39 c39 k39
  have b39 := F39.binds (ps := ["_law_draw_here", "_law_things"]) fun _ _ _ _ _ _ us hl => match us, hl with | [_, _], _ => rfl
  have F40 := fun_mk (st := s__law_told) l40 c40 k40
  have b40 := F40.binds (ps := ["_law_text"]) fun _ _ _ _ _ _ us hl => match us, hl with | [_], _ => rfl
  have F41 := fun_mk (st := s_law) l41 c41 k41
  have T_PatternReader : ClsF K "PatternReader" C_PatternReader ["line", "number", "at", "deep"] := ⟨ca_PatternReader, ⟨pg_PatternReader, hd_PatternReader, po_PatternReader, sa_PatternReader⟩, fun f hf => by simp only [List.mem_cons, List.not_mem_nil, or_false] at hf; rcases hf with rfl | rfl | rfl | rfl <;> assumption⟩
  have B : Bt mg := ⟨PySem.W.mg_none_of X G z_all, PySem.W.mg_none_of X G z_any, PySem.W.mg_none_of X G z_enumerate, PySem.W.mg_none_of X G z_int, PySem.W.mg_none_of X G z_isinstance, PySem.W.mg_none_of X G z_len, PySem.W.mg_none_of X G z_max, PySem.W.mg_none_of X G z_range, PySem.W.mg_none_of X G z_sorted, PySem.W.mg_none_of X G z_str, PySem.W.mg_none_of X G z_sum, PySem.W.mg_none_of X G z_tuple⟩
  have H_ALL : ∃ (u : Value) (v : V), mg "ALL" = some u ∧ RelV v u ∧ ∀ G, PD.Dp K G v c_ALL := ⟨_, .int 115792089237316195423570985008687907853269984665640564039457584007913129639935, PySem.W.mg_of X G q_ALL, ⟨_, rfl⟩, fun _ => .int _⟩
  have H_FIGURES : ∃ (u : Value) (v : V), mg "FIGURES" = some u ∧ RelV v u ∧ ∀ G, PD.Dp K G v c_FIGURES := ⟨_, .str "0123456789", PySem.W.mg_of X G q_FIGURES, ⟨_, rfl⟩, fun _ => .str _⟩
  have H_HEXES : ∃ (u : Value) (v : V), mg "HEXES" = some u ∧ RelV v u ∧ ∀ G, PD.Dp K G v c_HEXES := ⟨_, .str "0123456789abcdef", PySem.W.mg_of X G q_HEXES, ⟨_, rfl⟩, fun _ => .str _⟩
  have H_HIGH : ∃ (u : Value) (v : V), mg "HIGH" = some u ∧ RelV v u ∧ ∀ G, PD.Dp K G v c_HIGH := ⟨_, .str "&'()*+,-./0123456789:;<=>?@ABCDEFGHIJKLMNOPQRSTUVWXYZ[\\]^_`abcdefghijklmnopqrstuvwxyz{|}~", PySem.W.mg_of X G q_HIGH, ⟨_, rfl⟩, fun _ => .str _⟩
  have H_IN_CLASSES : ∃ (u : Value) (v : V), mg "IN_CLASSES" = some u ∧ RelV v u ∧ ∀ G, PD.Dp K G v c_IN_CLASSES := ⟨_, .str " \\]^-", PySem.W.mg_of X G q_IN_CLASSES, ⟨_, rfl⟩, fun _ => .str _⟩
  have H_LETTERS : ∃ (u : Value) (v : V), mg "LETTERS" = some u ∧ RelV v u ∧ ∀ G, PD.Dp K G v c_LETTERS := ⟨_, .str "abcdefghijklmnopqrstuvwxyzABCDEFGHIJKLMNOPQRSTUVWXYZ_", PySem.W.mg_of X G q_LETTERS, ⟨_, rfl⟩, fun _ => .str _⟩
  have H_LOW : ∃ (u : Value) (v : V), mg "LOW" = some u ∧ RelV v u ∧ ∀ G, PD.Dp K G v c_LOW := ⟨_, .str " !\"#$", PySem.W.mg_of X G q_LOW, ⟨_, rfl⟩, fun _ => .str _⟩
  have H_MOST_DEEP : ∃ (u : Value) (v : V), mg "MOST_DEEP" = some u ∧ RelV v u ∧ ∀ G, PD.Dp K G v c_MOST_DEEP := ⟨_, .int 30, PySem.W.mg_of X G q_MOST_DEEP, ⟨_, rfl⟩, fun _ => .int _⟩
  have H_MOST_RULES : ∃ (u : Value) (v : V), mg "MOST_RULES" = some u ∧ RelV v u ∧ ∀ G, PD.Dp K G v c_MOST_RULES := ⟨_, .int 8, PySem.W.mg_of X G q_MOST_RULES, ⟨_, rfl⟩, fun _ => .int _⟩
  have H_MOST_SIZE : ∃ (u : Value) (v : V), mg "MOST_SIZE" = some u ∧ RelV v u ∧ ∀ G, PD.Dp K G v c_MOST_SIZE := ⟨_, .int 300, PySem.W.mg_of X G q_MOST_SIZE, ⟨_, rfl⟩, fun _ => .int _⟩
  have H_MOST_TIMES : ∃ (u : Value) (v : V), mg "MOST_TIMES" = some u ∧ RelV v u ∧ ∀ G, PD.Dp K G v c_MOST_TIMES := ⟨_, .int 20, PySem.W.mg_of X G q_MOST_TIMES, ⟨_, rfl⟩, fun _ => .int _⟩
  have H_SPECIALS : ∃ (u : Value) (v : V), mg "SPECIALS" = some u ∧ RelV v u ∧ ∀ G, PD.Dp K G v c_SPECIALS := ⟨_, .str " \\.[](){}|&!*+?^$#", PySem.W.mg_of X G q_SPECIALS, ⟨_, rfl⟩, fun _ => .str _⟩
  have TX_BadBook : XCls K mg "BadBook" X_BadBook I_BadBook ["name"] := { gC := PySem.W.mg_of X G xa_BadBook, ini := xini_BadBook, ovr := xovr_BadBook, sa := xsa_BadBook, xf := xf_mk xga_BadBook xgg_BadBook xe_BadBook xhd_BadBook, no := fun n hn => by simp only [List.mem_cons, List.not_mem_nil, or_false] at hn; subst hn; exact xno0_BadBook, iC := xin_BadBook, tI := xti_BadBook, kC := xk_BadBook, tyC := xty_BadBook, te := te_mk xe_BadBook xic_BadBook xty_BadBook xs_BadBook, init := xi_BadBook xovr_BadBook xsa_BadBook xhd_BadBook xno0_BadBook ⟨_, _, _, _, _, _, _, _, _, _, _, _, _, _, xl_BadBook, xc_BadBook⟩ }
  have TX_BadText : XCls K mg "BadText" X_BadText I_BadText ["line", "column"] := { gC := PySem.W.mg_of X G xa_BadText, ini := xini_BadText, ovr := xovr_BadText, sa := xsa_BadText, xf := xf_mk xga_BadText xgg_BadText xe_BadText xhd_BadText, no := fun n hn => by simp only [List.mem_cons, List.not_mem_nil, or_false] at hn; rcases hn with rfl | rfl <;> assumption, iC := xin_BadText, tI := xti_BadText, kC := xk_BadText, tyC := xty_BadText, te := te_mk xe_BadText xic_BadText xty_BadText xs_BadText, init := xi_BadText xovr_BadText xsa_BadText xhd_BadText xno0_BadText xno1_BadText ⟨_, _, _, _, _, _, _, _, _, _, _, _, _, _, _, _, _, _, _, xl_BadText, xc_BadText⟩ }
  refine ⟨PySem.W.fnOf "law" "law" (defArgs s_law) (defBody s_law) (defScope s_law) .none kV41 dc41 pm41 an41 cd41 ct41, fun s v => .of_eq rfl, fun base _ _ => ?_⟩
  have K__law_cell_at := ok__law_cell_at (P := l.prog) (w := w) (base := base) (ex := (exX X_BadBook X_BadText)) (k := 0) F35 b35 (PySem.W.mg_of X G a35) B
  have K__law_draw := ok__law_draw (P := l.prog) (w := w) (base := base) (ex := (exX X_BadBook X_BadText)) (k := 0) F36 b36 (PySem.W.mg_of X G a36) B
  have K__law_number := ok__law_number (P := l.prog) (w := w) (base := base) (ex := (exX X_BadBook X_BadText)) (k := 1) F37 b37 (PySem.W.mg_of X G a37) B (K__law_draw.mono (by decide))
  have K__law_next := ok__law_next (P := l.prog) (w := w) (base := base) (ex := (exX X_BadBook X_BadText)) (k := 2) F38 b38 (PySem.W.mg_of X G a38) B (K__law_cell_at.mono (by decide)) (K__law_number.mono (by decide))
  have K__law_pick := ok__law_pick (P := l.prog) (w := w) (base := base) (ex := (exX X_BadBook X_BadText)) (k := 3) F39 b39 (PySem.W.mg_of X G a39) B (K__law_next.mono (by decide))
  have K_PatternReader_skip := ok_PatternReader_skip (P := l.prog) (w := w) (mg := mg) (base := base) (ex := (exX X_BadBook X_BadText)) (k := 0) F17 b17 T_PatternReader B ⟨a17, i17, k17⟩
  have K_PatternReader_sign := ok_PatternReader_sign (P := l.prog) (w := w) (mg := mg) (base := base) (ex := (exX X_BadBook X_BadText)) (k := 1) F18 b18 T_PatternReader B (K_PatternReader_skip.mono (by decide)) ⟨a18, i18, k18⟩
  have K_PatternReader___init__ := ok_PatternReader___init__ (P := l.prog) (w := w) (mg := mg) (base := base) (ex := (exX X_BadBook X_BadText)) (k := 0) F15 b15 T_PatternReader ⟨mk_PatternReader, a15, i15, kc_PatternReader⟩ (PySem.W.mg_of X G ca_PatternReader)
  have K_name_end := ok_name_end (P := l.prog) (w := w) (base := base) (ex := (exX X_BadBook X_BadText)) (k := 0) F31 b31 (PySem.W.mg_of X G a31) B TX_BadText rfl H_FIGURES H_LETTERS
  have K_PatternReader_took := ok_PatternReader_took (P := l.prog) (w := w) (mg := mg) (base := base) (ex := (exX X_BadBook X_BadText)) (k := 2) F19 b19 T_PatternReader (K_PatternReader_sign.mono (by decide)) ⟨a19, i19, k19⟩
  have K_PatternReader_wrong := ok_PatternReader_wrong (P := l.prog) (w := w) (mg := mg) (base := base) (ex := (exX X_BadBook X_BadText)) (k := 0) F16 b16 T_PatternReader TX_BadText rfl ⟨a16, i16, k16⟩
  have K_size_of := ok_size_of (P := l.prog) (w := w) (base := base) (ex := (exX X_BadBook X_BadText)) (k := 0) F12 b12 (PySem.W.mg_of X G a12) B 14
  have K_PatternReader_small := ok_PatternReader_small (P := l.prog) (w := w) (mg := mg) (base := base) (ex := (exX X_BadBook X_BadText)) (k := 14) F24 b24 T_PatternReader H_MOST_SIZE (K_size_of.mono (by decide)) (K_PatternReader_wrong.mono (by decide)) ⟨a24, i24, k24⟩
  have K_some := ok_some (P := l.prog) (w := w) (base := base) (ex := (exX X_BadBook X_BadText)) (k := 0) F3 b3 (PySem.W.mg_of X G a3) 
  have K_sets_together := ok_sets_together (P := l.prog) (w := w) (base := base) (ex := (exX X_BadBook X_BadText)) (k := 1) F6 b6 (PySem.W.mg_of X G a6) B H_ALL (K_some.mono (by decide))
  have K_flat := ok_flat (P := l.prog) (w := w) (base := base) (ex := (exX X_BadBook X_BadText)) (k := 0) F5 b5 (PySem.W.mg_of X G a5) B rfl
  have K_any_of := ok_any_of (P := l.prog) (w := w) (base := base) (ex := (exX X_BadBook X_BadText)) (k := 2) F7 b7 (PySem.W.mg_of X G a7) B (K_sets_together.mono (by decide)) (K_flat.mono (by decide))
  have K_all_of := ok_all_of (P := l.prog) (w := w) (base := base) (ex := (exX X_BadBook X_BadText)) (k := 2) F8 b8 (PySem.W.mg_of X G a8) B (K_sets_together.mono (by decide)) (K_flat.mono (by decide))
  have K_row := ok_row (P := l.prog) (w := w) (base := base) (ex := (exX X_BadBook X_BadText)) (k := 0) F4 b4 (PySem.W.mg_of X G a4) 14
  have K_but := ok_but (P := l.prog) (w := w) (base := base) (ex := (exX X_BadBook X_BadText)) (k := 0) F9 b9 (PySem.W.mg_of X G a9) 
  have K_again := ok_again (P := l.prog) (w := w) (base := base) (ex := (exX X_BadBook X_BadText)) (k := 0) F10 b10 (PySem.W.mg_of X G a10) 
  have K_PatternReader_number_told := ok_PatternReader_number_told (P := l.prog) (w := w) (mg := mg) (base := base) (ex := (exX X_BadBook X_BadText)) (k := 1) F26 b26 T_PatternReader B H_FIGURES H_MOST_TIMES (K_PatternReader_skip.mono (by decide)) (K_PatternReader_wrong.mono (by decide)) ⟨a26, i26, k26⟩
  have K_times := ok_times (P := l.prog) (w := w) (base := base) (ex := (exX X_BadBook X_BadText)) (k := 14) F11 b11 (PySem.W.mg_of X G a11) B (K_again.mono (by decide)) (K_any_of.mono (by decide)) (K_row.mono (by decide))
  have K_PatternReader_repeated := ok_PatternReader_repeated (P := l.prog) (w := w) (mg := mg) (base := base) (ex := (exX X_BadBook X_BadText)) (k := 15) F25 b25 T_PatternReader B H_MOST_SIZE (K_PatternReader_took.mono (by decide)) (K_again.mono (by decide)) (K_row.mono (by decide)) (K_any_of.mono (by decide)) (K_PatternReader_number_told.mono (by decide)) (K_PatternReader_sign.mono (by decide)) (K_PatternReader_wrong.mono (by decide)) (K_size_of.mono (by decide)) (K_times.mono (by decide)) ⟨a25, i25, k25⟩
  have K_without := ok_without (P := l.prog) (w := w) (base := base) (ex := (exX X_BadBook X_BadText)) (k := 0) F2 b2 (PySem.W.mg_of X G a2) H_ALL
  have K_byte_of := ok_byte_of (P := l.prog) (w := w) (base := base) (ex := (exX X_BadBook X_BadText)) (k := 0) F14 b14 (PySem.W.mg_of X G a14) H_HIGH H_LOW
  have K_PatternReader_byte_told := ok_PatternReader_byte_told (P := l.prog) (w := w) (mg := mg) (base := base) (ex := (exX X_BadBook X_BadText)) (k := 1) F28 b28 T_PatternReader B H_HEXES (K_PatternReader_wrong.mono (by decide)) (K_byte_of.mono (by decide)) ⟨a28, i28, k28⟩
  have K_PatternReader_class_byte := ok_PatternReader_class_byte (P := l.prog) (w := w) (mg := mg) (base := base) (ex := (exX X_BadBook X_BadText)) (k := 2) F30 b30 T_PatternReader H_IN_CLASSES (K_PatternReader_wrong.mono (by decide)) (K_PatternReader_byte_told.mono (by decide)) ⟨a30, i30, k30⟩
  have K_range_set := ok_range_set (P := l.prog) (w := w) (base := base) (ex := (exX X_BadBook X_BadText)) (k := 0) F1 b1 (PySem.W.mg_of X G a1) 
  have K_PatternReader_some_told := ok_PatternReader_some_told (P := l.prog) (w := w) (mg := mg) (base := base) (ex := (exX X_BadBook X_BadText)) (k := 3) F29 b29 T_PatternReader (K_PatternReader_skip.mono (by decide)) (K_without.mono (by decide)) (K_PatternReader_class_byte.mono (by decide)) (K_PatternReader_wrong.mono (by decide)) (K_range_set.mono (by decide)) ⟨a29, i29, k29⟩
  have K_set_of := ok_set_of (P := l.prog) (w := w) (base := base) (ex := (exX X_BadBook X_BadText)) (k := 0) F0 b0 (PySem.W.mg_of X G a0) 
  have K_grp := ok_grp (P := l.prog) (w := w) (mg := mg) (base := base) (ex := (exX X_BadBook X_BadText)) (k := 16) F20 b20 ⟨a20, i20, k20⟩ F21 b21 ⟨a21, i21, k21⟩ F22 b22 ⟨a22, i22, k22⟩ F23 b23 ⟨a23, i23, k23⟩ F27 b27 ⟨a27, i27, k27⟩ T_PatternReader H_MOST_DEEP (K_PatternReader_wrong.mono (by decide)) (K_PatternReader_took.mono (by decide)) (K_PatternReader_small.mono (by decide)) (K_any_of.mono (by decide)) (K_all_of.mono (by decide)) B H_MOST_SIZE (K_PatternReader_sign.mono (by decide)) (K_size_of.mono (by decide)) (K_row.mono (by decide)) (K_but.mono (by decide)) (K_PatternReader_repeated.mono (by decide)) H_ALL H_SPECIALS (K_some.mono (by decide)) (K_PatternReader_some_told.mono (by decide)) (K_set_of.mono (by decide)) (K_PatternReader_byte_told.mono (by decide)) 8
  have K_PatternReader_either : FnM l.prog w K mg base (exX X_BadBook X_BadText) 56 "PatternReader" "either" 0 sem_PatternReader_either := K_grp.1
  have K_read_rule := ok_read_rule (P := l.prog) (w := w) (base := base) (ex := (exX X_BadBook X_BadText)) (k := 55) F32 b32 (PySem.W.mg_of X G a32) T_PatternReader (K_PatternReader___init__.mono (by decide)) (K_PatternReader_skip.mono (by decide)) (K_name_end.mono (by decide)) (K_PatternReader_took.mono (by decide)) (K_PatternReader_wrong.mono (by decide)) (K_PatternReader_either.mono (by decide)) (K_PatternReader_sign.mono (by decide))
  have K_has_empty := ok_has_empty (P := l.prog) (w := w) (base := base) (ex := (exX X_BadBook X_BadText)) (k := 0) F13 b13 (PySem.W.mg_of X G a13) B 14
  have K_check_book := ok_check_book (P := l.prog) (w := w) (base := base) (ex := (exX X_BadBook X_BadText)) (k := 14) F33 b33 (PySem.W.mg_of X G a33) B TX_BadBook rfl H_MOST_RULES (K_has_empty.mono (by decide))
  have K_read_book := ok_read_book (P := l.prog) (w := w) (base := base) (ex := (exX X_BadBook X_BadText)) (k := 56) F34 b34 (PySem.W.mg_of X G a34) B TX_BadText rfl (K_PatternReader_sign.mono (by decide)) (K_PatternReader___init__.mono (by decide)) (K_read_rule.mono (by decide)) (K_check_book.mono (by decide))
  have K__law_told := ok__law_told (P := l.prog) (w := w) (base := base) (ex := (exX X_BadBook X_BadText)) (k := 58) F40 b40 (PySem.W.mg_of X G a40) B TX_BadBook rfl TX_BadText rfl (te_no xe_BadBook xic_BadBook xty_BadBook xap_BadText_BadBook) (K_read_book.mono (by decide))
  exact ok_law (P := l.prog) (w := w) (base := base) (ex := (exX X_BadBook X_BadText)) (k := 59) F41 B nol (K__law_next.mono (by decide)) (K__law_pick.mono (by decide)) (K__law_told.mono (by decide)) good
end Lk10
open PySem PySem.W PyProof.Rows
set_option maxRecDepth 100000 in
set_option maxHeartbeats 0 in
theorem PySem.Challenge.cw_beatscan_k10_refused_books_holds : PySem.Challenge.rw_beatscan_k10_refused_books.Holds := by
  w_on; o_law; k_head; (case hw => w_witness2)
  k_fill
  refine PD.walkG (l := PySem.Challenge.rw_beatscan_k10_refused_books) (n := 63) (k := 60) (x := "_law_script") (CX := fun w => L2.CX PySem.Challenge.rw_beatscan_k10_refused_books.prog w) (sp := fun w => PD.spLaw _) rfl (by decide) rfl ⟨rfl, by decide, by decide⟩ (fun w h Y => PySem.W.kIn_of Y) ?F (fun _ _ a ns hl _ hS => ⟨a, ns, rfl, hS, hl, fun _ => rfl⟩) (fun _ _ _ _ _ h => by obtain ⟨_, _, _, _, _, _, _, _, _, _, _, _, z⟩ := h; exact z)
  case F =>
    intro w mg fa h KX G hmg
    refine' Lk10.all_mk KX G hmg ?ca_PatternReader ?pg_PatternReader ?hd_PatternReader ?po_PatternReader ?sa_PatternReader ?mk_PatternReader ?kc_PatternReader ?nf0_PatternReader ?nf1_PatternReader ?nf2_PatternReader ?nf3_PatternReader ?a0 ?l0 ?c0 ?k0 ?a1 ?l1 ?c1 ?k1 ?a2 ?l2 ?c2 ?k2 ?a3 ?l3 ?c3 ?k3 ?a4 ?l4 ?c4 ?k4 ?a5 ?l5 ?c5 ?k5 ?a6 ?l6 ?c6 ?k6 ?a7 ?l7 ?c7 ?k7 ?a8 ?l8 ?c8 ?k8 ?a9 ?l9 ?c9 ?k9 ?a10 ?l10 ?c10 ?k10 ?a11 ?l11 ?c11 ?k11 ?a12 ?l12 ?c12 ?k12 ?a13 ?l13 ?c13 ?k13 ?a14 ?l14 ?c14 ?k14 ?i15 ?a15 ?l15 ?c15 ?k15 ?i16 ?a16 ?l16 ?c16 ?k16 ?i17 ?a17 ?l17 ?c17 ?k17 ?i18 ?a18 ?l18 ?c18 ?k18 ?i19 ?a19 ?l19 ?c19 ?k19 ?i20 ?a20 ?l20 ?c20 ?k20 ?i21 ?a21 ?l21 ?c21 ?k21 ?i22 ?a22 ?l22 ?c22 ?k22 ?i23 ?a23 ?l23 ?c23 ?k23 ?i24 ?a24 ?l24 ?c24 ?k24 ?i25 ?a25 ?l25 ?c25 ?k25 ?i26 ?a26 ?l26 ?c26 ?k26 ?i27 ?a27 ?l27 ?c27 ?k27 ?i28 ?a28 ?l28 ?c28 ?k28 ?i29 ?a29 ?l29 ?c29 ?k29 ?i30 ?a30 ?l30 ?c30 ?k30 ?a31 ?l31 ?c31 ?k31 ?a32 ?l32 ?c32 ?k32 ?a33 ?l33 ?c33 ?k33 ?a34 ?l34 ?c34 ?k34 ?a35 ?l35 ?c35 ?k35 ?a36 ?l36 ?c36 ?k36 ?a37 ?l37 ?c37 ?k37 ?a38 ?l38 ?c38 ?k38 ?a39 ?l39 ?c39 ?k39 ?a40 ?l40 ?c40 ?k40 ?a41 ?l41 ?c41 ?k41 ?z_all ?z_any ?z_enumerate ?z_int ?z_isinstance ?z_len ?z_max ?z_range ?z_sorted ?z_str ?z_sum ?z_tuple ?q_ALL ?q_FIGURES ?q_HEXES ?q_HIGH ?q_IN_CLASSES ?q_LETTERS ?q_LOW ?q_MOST_DEEP ?q_MOST_RULES ?q_MOST_SIZE ?q_MOST_TIMES ?q_SPECIALS ?xa_BadBook ?xini_BadBook ?xovr_BadBook ?xsa_BadBook ?xga_BadBook ?xgg_BadBook ?xhd_BadBook ?xno0_BadBook ?xin_BadBook ?xti_BadBook ?xl_BadBook ?xc_BadBook ?xk_BadBook ?xe_BadBook ?xty_BadBook ?xic_BadBook ?xs_BadBook ?xa_BadText ?xini_BadText ?xovr_BadText ?xsa_BadText ?xga_BadText ?xgg_BadText ?xhd_BadText ?xno0_BadText ?xno1_BadText ?xin_BadText ?xti_BadText ?xl_BadText ?xc_BadText ?xk_BadText ?xe_BadText ?xty_BadText ?xic_BadText ?xs_BadText ?xap_BadText_BadBook ?nol (@Lk10.good ⟨w⟩)
    (case ca_PatternReader => k_is); (case pg_PatternReader => k_is); (case hd_PatternReader => k_is); (case po_PatternReader => k_is); (case sa_PatternReader => k_is); (case mk_PatternReader => k_is); (case kc_PatternReader => k_is); (case nf0_PatternReader => k_is); (case nf1_PatternReader => k_is); (case nf2_PatternReader => k_is); (case nf3_PatternReader => k_is); (case a0 => k_is); (case l0 => k_is); (case c0 => k_is); (case k0 => k_is); (case a1 => k_is); (case l1 => k_is); (case c1 => k_is); (case k1 => k_is); (case a2 => k_is); (case l2 => k_is); (case c2 => k_is); (case k2 => k_is); (case a3 => k_is); (case l3 => k_is); (case c3 => k_is); (case k3 => k_is); (case a4 => k_is); (case l4 => k_is); (case c4 => k_is); (case k4 => k_is); (case a5 => k_is); (case l5 => k_is); (case c5 => k_is); (case k5 => k_is); (case a6 => k_is); (case l6 => k_is); (case c6 => k_is); (case k6 => k_is); (case a7 => k_is); (case l7 => k_is); (case c7 => k_is); (case k7 => k_is); (case a8 => k_is); (case l8 => k_is); (case c8 => k_is); (case k8 => k_is); (case a9 => k_is); (case l9 => k_is); (case c9 => k_is); (case k9 => k_is); (case a10 => k_is); (case l10 => k_is); (case c10 => k_is); (case k10 => k_is); (case a11 => k_is); (case l11 => k_is); (case c11 => k_is); (case k11 => k_is); (case a12 => k_is); (case l12 => k_is); (case c12 => k_is); (case k12 => k_is); (case a13 => k_is); (case l13 => k_is); (case c13 => k_is); (case k13 => k_is); (case a14 => k_is); (case l14 => k_is); (case c14 => k_is); (case k14 => k_is); (case i15 => k_is); (case a15 => k_is); (case l15 => k_is); (case c15 => k_is); (case k15 => k_is); (case i16 => k_is); (case a16 => k_is); (case l16 => k_is); (case c16 => k_is); (case k16 => k_is); (case i17 => k_is); (case a17 => k_is); (case l17 => k_is); (case c17 => k_is); (case k17 => k_is); (case i18 => k_is); (case a18 => k_is); (case l18 => k_is); (case c18 => k_is); (case k18 => k_is); (case i19 => k_is); (case a19 => k_is); (case l19 => k_is); (case c19 => k_is); (case k19 => k_is); (case i20 => k_is); (case a20 => k_is); (case l20 => k_is); (case c20 => k_is); (case k20 => k_is); (case i21 => k_is); (case a21 => k_is); (case l21 => k_is); (case c21 => k_is); (case k21 => k_is); (case i22 => k_is); (case a22 => k_is); (case l22 => k_is); (case c22 => k_is); (case k22 => k_is); (case i23 => k_is); (case a23 => k_is); (case l23 => k_is); (case c23 => k_is); (case k23 => k_is); (case i24 => k_is); (case a24 => k_is); (case l24 => k_is); (case c24 => k_is); (case k24 => k_is); (case i25 => k_is); (case a25 => k_is); (case l25 => k_is); (case c25 => k_is); (case k25 => k_is); (case i26 => k_is); (case a26 => k_is); (case l26 => k_is); (case c26 => k_is); (case k26 => k_is); (case i27 => k_is); (case a27 => k_is); (case l27 => k_is); (case c27 => k_is); (case k27 => k_is); (case i28 => k_is); (case a28 => k_is); (case l28 => k_is); (case c28 => k_is); (case k28 => k_is); (case i29 => k_is); (case a29 => k_is); (case l29 => k_is); (case c29 => k_is); (case k29 => k_is); (case i30 => k_is); (case a30 => k_is); (case l30 => k_is); (case c30 => k_is); (case k30 => k_is); (case a31 => k_is); (case l31 => k_is); (case c31 => k_is); (case k31 => k_is); (case a32 => k_is); (case l32 => k_is); (case c32 => k_is); (case k32 => k_is); (case a33 => k_is); (case l33 => k_is); (case c33 => k_is); (case k33 => k_is); (case a34 => k_is); (case l34 => k_is); (case c34 => k_is); (case k34 => k_is); (case a35 => k_is); (case l35 => k_is); (case c35 => k_is); (case k35 => k_is); (case a36 => k_is); (case l36 => k_is); (case c36 => k_is); (case k36 => k_is); (case a37 => k_is); (case l37 => k_is); (case c37 => k_is); (case k37 => k_is); (case a38 => k_is); (case l38 => k_is); (case c38 => k_is); (case k38 => k_is); (case a39 => k_is); (case l39 => k_is); (case c39 => k_is); (case k39 => k_is); (case a40 => k_is); (case l40 => k_is); (case c40 => k_is); (case k40 => k_is); (case a41 => k_is); (case l41 => k_is); (case c41 => k_is); (case k41 => k_is); (case z_all => k_is); (case z_any => k_is); (case z_enumerate => k_is); (case z_int => k_is); (case z_isinstance => k_is); (case z_len => k_is); (case z_max => k_is); (case z_range => k_is); (case z_sorted => k_is); (case z_str => k_is); (case z_sum => k_is); (case z_tuple => k_is); (case q_ALL => k_is); (case q_FIGURES => k_is); (case q_HEXES => k_is); (case q_HIGH => k_is); (case q_IN_CLASSES => k_is); (case q_LETTERS => k_is); (case q_LOW => k_is); (case q_MOST_DEEP => k_is); (case q_MOST_RULES => k_is); (case q_MOST_SIZE => k_is); (case q_MOST_TIMES => k_is); (case q_SPECIALS => k_is); (case xa_BadBook => k_is); (case xini_BadBook => kernel_rfl); (case xovr_BadBook => kernel_rfl); (case xsa_BadBook => k_is); (case xga_BadBook => k_is); (case xgg_BadBook => k_is); (case xhd_BadBook => k_is); (case xno0_BadBook => k_is); (case xin_BadBook => k_is); (case xti_BadBook => k_is); (case xl_BadBook => k_is); (case xc_BadBook => k_is); (case xk_BadBook => k_is); (case xe_BadBook => k_is); (case xty_BadBook => k_is); (case xic_BadBook => k_is); (case xs_BadBook => k_is); (case xa_BadText => k_is); (case xini_BadText => kernel_rfl); (case xovr_BadText => kernel_rfl); (case xsa_BadText => k_is); (case xga_BadText => k_is); (case xgg_BadText => k_is); (case xhd_BadText => k_is); (case xno0_BadText => k_is); (case xno1_BadText => k_is); (case xin_BadText => k_is); (case xti_BadText => k_is); (case xl_BadText => k_is); (case xc_BadText => k_is); (case xk_BadText => k_is); (case xe_BadText => k_is); (case xty_BadText => k_is); (case xic_BadText => k_is); (case xs_BadText => k_is); (case xap_BadText_BadBook => k_is)
    (case nol => letI : PD.WI := ⟨w⟩; exact PD.noL_of (by kernel_rfl))

