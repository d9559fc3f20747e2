import PyProof.Rows.All
import Wide.All
import OpenK.AllK
import Wide.FinOn
import HandS.ForMost
import HandS.ForExc
import HandS.Walk
import HandS.Star
import HandS.SortInts
import HandS.Lambda
import HandS.TupAny
import HandS.Wide
import HandS.WideBits
import HandS.Conv
import HandS.Style
import KE.KExcInit
import HandS.ExcSuper
import HandS.ExcField
import KE.GoesEnum
import HandS.Zip
import HandS.IsInst
import HandS.ExcOwn
import HandS.DictComp
import HandS.More
import PyProof.DictUpdate
import HandS.SetFor
import HandS.Strs
import HandS.EndOwn
import HandS.Zip0
import HandS.DictTup
import KE.KDictZip
import PySem.Challenge.RW_beatscan_k17_gathered
set_option Elab.async false
set_option linter.all false
set_option maxRecDepth 100000
set_option maxHeartbeats 4000000
set_option exponentiation.threshold 20000
/-! PD1: readings by plain data. An expression's reading is a function of a state of data (slots, the draw counter) to data; the heap is kept track of once, here. -/
namespace PD
abbrev D := PySem.PyData
end PD
namespace PD
open PySem PySem.Spec L2
open PyProof.Rows hiding St

/-! ### data and heaps -/
def keyD : Key → D
  | .inl i => .int i
  | .inr x => .str x
mutual
/-- a value is these data; dicts of ints and texts too -/
inductive Dp (K : PySem.W.Frag) (H : Hp) : V → PyData → Prop
  | non : Dp K H .non .none
  | bl (b : Bool) : Dp K H (.bl b) (.bool b)
  | int (i : Int) : Dp K H (.int i) (.int i)
  | str (x : Str) : Dp K H (.str x) (.str x)
  | lst {a : Addr} {xs : List V} {ds : List PyData} : SqL K H a xs → DpAll K H xs ds → Dp K H (.ref a) (.list ds)
  | tup {a : Addr} {xs : List V} {ds : List PyData} : SqT K H a xs → DpAll K H xs ds → Dp K H (.ref a) (.tuple ds)
  | dct {a : Addr} {kvs : List (Key × V)} {es : List (PyData × PyData)} : H a = some (.dK kvs) → DpKvs K H kvs es → Dp K H (.ref a) (.dict es)
inductive DpAll (K : PySem.W.Frag) (H : Hp) : List V → List PyData → Prop
  | nil : DpAll K H [] []
  | cons {v : V} {vs : List V} {d : PyData} {ds : List PyData} : Dp K H v d → DpAll K H vs ds → DpAll K H (v :: vs) (d :: ds)
inductive DpKvs (K : PySem.W.Frag) (H : Hp) : List (Key × V) → List (PyData × PyData) → Prop
  | nil : DpKvs K H [] []
  | cons {k : Key} {v : V} {kvs : List (Key × V)} {d : PyData} {es : List (PyData × PyData)} : Dp K H v d → DpKvs K H kvs es → DpKvs K H ((k, v) :: kvs) ((keyD k, d) :: es)
end
section
variable {K : PySem.W.Frag}
theorem sqT_mono {G G' : Hp} {a : Addr} {xs : List V} (e : Same G G') (h : SqT K G a xs) : SqT K G' a xs := by
  rcases h with (h | ⟨o, h⟩) | h
  · exact .inl (.inl (e _ _ h))
  · exact .inl (.inr ⟨o, e _ _ h⟩)
  · exact .inr h
mutual
theorem dp_mono {G G' : Hp} (e : Same G G') : ∀ (d : PyData) (v : V), Dp K G v d → Dp K G' v d
  | .none, _, h => by cases h; exact .non
  | .bool b, _, h => by cases h; exact .bl b
  | .int i, _, h => by cases h; exact .int i
  | .str x, _, h => by cases h; exact .str x
  | .list ds, _, h => by
    cases h with
    | lst h1 h2 => exact .lst (e.seq h1) (dpAll_mono e ds _ h2)
  | .tuple ds, _, h => by
    cases h with
    | tup h1 h2 => exact .tup (sqT_mono e h1) (dpAll_mono e ds _ h2)
  | .dict es, _, h => by
    cases h with
    | dct h1 h2 => exact .dct (e _ _ h1) (dpKvs_mono e es _ h2)
theorem dpAll_mono {G G' : Hp} (e : Same G G') : ∀ (ds : List PyData) (vs : List V), DpAll K G vs ds → DpAll K G' vs ds
  | [], _, h => by cases h; exact .nil
  | d :: ds, _, h => by
    cases h with
    | cons h1 h2 => exact .cons (dp_mono e d _ h1) (dpAll_mono e ds _ h2)
theorem dpKvs_mono {G G' : Hp} (e : Same G G') : ∀ (ds : List (PyData × PyData)) (vs : List (Key × V)), DpKvs K G vs ds → DpKvs K G' vs ds
  | [], _, h => by cases h; exact .nil
  | (k, d) :: ds, _, h => by
    cases h with
    | cons h1 h2 => exact .cons (dp_mono e d _ h1) (dpKvs_mono e ds _ h2)
end
mutual
/-- the kit's relation, where there are no dicts -/
theorem dp_kit {G : Hp} : ∀ (d : PyData) (v : V), d.canLay0 = true → Dp K G v d → L2.Dp K G v d
  | .none, _, _, h => by cases h; exact .non
  | .bool b, _, _, h => by cases h; exact .bl b
  | .int i, _, _, h => by cases h; exact .int i
  | .str x, _, _, h => by cases h; exact .str x
  | .list ds, _, c, h => by
    cases h with
    | lst h1 h2 => exact .lst h1 (dpAll_kit ds _ (by rw [PyData.canLay0] at c; exact c) h2)
  | .tuple ds, _, c, h => by
    cases h with
    | tup h1 h2 => exact .tup h1 (dpAll_kit ds _ (by rw [PyData.canLay0] at c; exact c) h2)
  | .dict es, _, c, _ => by simp [PyData.canLay0] at c
theorem dpAll_kit {G : Hp} : ∀ (ds : List PyData) (vs : List V), PyData.canLayAll0 ds = true → DpAll K G vs ds → L2.DpAll K G vs ds
  | [], _, _, h => by cases h; exact .nil
  | d :: ds, _, c, h => by
    rw [PyData.canLayAll0, Bool.and_eq_true] at c
    cases h with
    | cons h1 h2 => exact .cons (dp_kit d _ c.1 h1) (dpAll_kit ds _ c.2 h2)
end
theorem Dp.kit {G : Hp} {v : V} {d : D} (h : Dp K G v d) (c : SeqAt.shaped d = true) : L2.Dp K G v d := by
  unfold SeqAt.shaped at c
  rw [Bool.and_eq_true] at c
  exact dp_kit d v c.1 h
theorem Dp.up {G G' : Hp} {v : V} {d : D} (h : Dp K G v d) (e : Same G G') : Dp K G' v d := dp_mono e d v h
theorem DpAll.up {G G' : Hp} {vs : List V} {ds : List D} (h : DpAll K G vs ds) (e : Same G G') : DpAll K G' vs ds := dpAll_mono e ds vs h
theorem DpAll.len {G : Hp} : ∀ {vs : List V} {ds : List D}, DpAll K G vs ds → vs.length = ds.length
  | [], [], _ => rfl
  | _ :: _, _ :: _, h => by cases h with | cons _ h2 => simp [DpAll.len h2]
theorem DpAll.app {G : Hp} : ∀ {vs ws : List V} {ds es : List D}, DpAll K G vs ds → DpAll K G ws es → DpAll K G (vs ++ ws) (ds ++ es)
  | [], _, [], _, _, h => h
  | _ :: _, _, _ :: _, _, h, h' => by cases h with | cons h1 h2 => exact .cons h1 (DpAll.app h2 h')
theorem DpAll.get {G : Hp} : ∀ {vs : List V} {ds : List D} {i : Nat} {d : D}, DpAll K G vs ds → ds[i]? = some d → ∃ v, vs[i]? = some v ∧ Dp K G v d
  | [], [], _, _, _, e => by simp at e
  | v :: vs, d :: ds, 0, d', h, e => by
    cases h with
    | cons h1 h2 =>
      have : d = d' := by simpa using e
      subst this
      exact ⟨v, rfl, h1⟩
  | _ :: _, _ :: _, i + 1, d', h, e => by
    cases h with
    | cons h1 h2 => exact DpAll.get (i := i) h2 (by simpa using e)
theorem DpAll.getV {G : Hp} : ∀ {vs : List V} {ds : List D} {i : Nat} {v : V}, DpAll K G vs ds → vs[i]? = some v → ∃ d, ds[i]? = some d ∧ Dp K G v d
  | [], [], _, _, _, e => by simp at e
  | v :: vs, d :: ds, 0, v', h, e => by
    cases h with
    | cons h1 h2 =>
      have : v = v' := by simpa using e
      subst this
      exact ⟨d, rfl, h1⟩
  | _ :: _, _ :: _, i + 1, d', h, e => by
    cases h with
    | cons h1 h2 => exact DpAll.getV (i := i) h2 (by simpa using e)
theorem DpAll.setI {G : Hp} {v : V} {d : D} (h1 : Dp K G v d) : ∀ {vs : List V} {ds : List D} (i : Nat), DpAll K G vs ds → DpAll K G (vs.set i v) (ds.set i d)
  | [], [], _, _ => .nil
  | _ :: _, _ :: _, 0, h => by cases h with | cons _ h2 => exact .cons h1 h2
  | _ :: _, _ :: _, i + 1, h => by cases h with | cons h0 h2 => exact .cons h0 (DpAll.setI h1 i h2)
theorem DpAll.takeI {G : Hp} : ∀ {vs : List V} {ds : List D} (i : Nat), DpAll K G vs ds → DpAll K G (vs.take i) (ds.take i)
  | [], [], _, _ => by simp; exact .nil
  | _ :: _, _ :: _, 0, h => by simp; exact .nil
  | _ :: _, _ :: _, i + 1, h => by cases h with | cons h0 h2 => exact .cons h0 (DpAll.takeI i h2)
theorem DpAll.dropI {G : Hp} : ∀ {vs : List V} {ds : List D} (i : Nat), DpAll K G vs ds → DpAll K G (vs.drop i) (ds.drop i)
  | [], [], _, _ => by simp; exact .nil
  | _ :: _, _ :: _, 0, h => h
  | _ :: _, _ :: _, i + 1, h => by cases h with | cons h0 h2 => exact DpAll.dropI i h2
theorem DpAll.ints {G : Hp} : ∀ (ns : List Int), DpAll K G (ns.map V.int) (ns.map PyData.int)
  | [] => .nil
  | _ :: r => .cons (.int _) (DpAll.ints r)
theorem DpAll.of_ints {G : Hp} : ∀ {vs : List V} {ns : List Int}, DpAll K G vs (ns.map PyData.int) → vs = ns.map V.int
  | [], [], _ => rfl
  | _ :: _, _ :: _, h => by
    cases h with
    | cons h1 h2 => cases h1; rw [DpAll.of_ints h2]; rfl
theorem DpAll.of_bls {G : Hp} : ∀ {vs : List V} {ns : List Bool}, DpAll K G vs (ns.map PyData.bool) → vs = ns.map V.bl
  | [], [], _ => rfl
  | _ :: _, _ :: _, h => by
    cases h with
    | cons h1 h2 => cases h1; rw [DpAll.of_bls h2]; rfl
theorem DpAll.of_strs {G : Hp} : ∀ {vs : List V} {ns : List Str}, DpAll K G vs (ns.map PyData.str) → vs = ns.map V.str
  | [], [], _ => rfl
  | _ :: _, _ :: _, h => by
    cases h with
    | cons h1 h2 => cases h1; rw [DpAll.of_strs h2]; rfl
end
end PD
namespace L2
open PySem PySem.Spec PD
open PyProof.Rows hiding St
section
variable {X : Cx} {e : Expr}
theorem PE.imp {t t' : TE} (h : PE X e t) (k : ∀ σ H Q, t' σ H Q → t σ H Q) : PE X e t' := ⟨fun pins s σ H Q I hw => h.run pins s σ H Q I (k σ H Q hw)⟩
theorem PT.imp {t t' : TT} (h : PT X e t) (k : ∀ σ H Q, t' σ H Q → t σ H Q) : PT X e t' := ⟨fun pins s σ H Q I hw => h.run pins s σ H Q I (k σ H Q hw)⟩
theorem PW.imp {t t' : TT} (h : PW X e t) (k : ∀ σ H Q, t' σ H Q → t σ H Q) : PW X e t' := ⟨fun wh pins s σ H Q I hw => h.run wh pins s σ H Q I (k σ H Q hw)⟩
theorem PA.imp {es : List Expr} {t t' : TA} (h : PA X es t) (k : ∀ σ H Q, t' σ H Q → t σ H Q) : PA X es t' := ⟨fun pos pins s σ H Q I hw => h.run pos pins s σ H Q I (k σ H Q hw)⟩
theorem PS.imp {st : Stmt} {t t' : TS} (h : PS X st t) (k : ∀ D σ H, t' D σ H → t D σ H) : PS X st t' := ⟨fun pins s σ H D I hw => h.run pins s σ H D I (k D σ H hw)⟩
theorem PSs.imp {st : List Stmt} {t t' : TS} (h : PSs X st t) (k : ∀ D σ H, t' D σ H → t D σ H) : PSs X st t' := ⟨fun pins s σ H D I hw => h.run pins s σ H D I (k D σ H hw)⟩
theorem PTs.imp {es : List Expr} {t t' : TT} (h : PTs X es t) (k : ∀ σ H Q, t' σ H Q → t σ H Q) : PTs X es t' := ⟨fun pins s σ H Q I hw => h.run pins s σ H Q I (k σ H Q hw)⟩
theorem PI.imp {tg : Expr} {t t' : TI} (h : PI X tg e t) (k : ∀ σ H Q, t' σ H Q → t σ H Q) : PI X tg e t' := ⟨fun pins s σ H Q I hw => h.run pins s σ H Q I (k σ H Q hw)⟩
theorem PG.imp {t t' : TG} (h : PG X e t) (k : ∀ v σ H Q, t' v σ H Q → t v σ H Q) : PG X e t' := ⟨fun pins s σ H v u Q I r hw => h.run pins s σ H v u Q I r (k v σ H Q hw)⟩
end
end L2
namespace PD
open PySem PySem.Spec L2
open PyProof.Rows hiding St

/-! ### the state of data -/
/-- an object of its own: a list, a dict of ints and texts, an instance whose fields are data -/
inductive OC where
  | lst (ds : List D)
  | dic (es : List (Key × D))
  | ins (n : Str) (fs : List (Str × D))
inductive Ent where
  | val (d : D)
  | own (ds : List D)
  | dic (es : List (Key × D))
  | ins (b : Bool) (n : Str) (fs : List (Str × D))
  | hdl
  | tab (P : Addr) (q : Str)
def isOb : Ent → Bool
  | .own _ | .dic _ | .ins _ _ _ => true
  | _ => false
/-- the law's script and the number of draws taken -/
structure Wst where
  ns : List Int
  k : Int
structure S where
  ρ : List (Option Ent)
  w : Wst
abbrev S.put (s : S) (i : Nat) (e : Ent) : S := { s with ρ := s.ρ.set i (some e) }
abbrev S.drop (s : S) (i : Nat) : S := { s with ρ := s.ρ.set i none }

/-- an activation: where the draw list and the script stand; what was frozen and what stood at its entry -/
structure Act where
  wa : Addr
  sc : Addr
  G0 : Hp
  H0 : Hp
  se : Addr
  T : List (Addr × Str)

/-- named values are these data -/
inductive PrAll (K : PySem.W.Frag) (G : Hp) {α : Type} : List (α × V) → List (α × D) → Prop
  | nil : PrAll K G [] []
  | cons {k : α} {v : V} {d : D} {l : List (α × V)} {m : List (α × D)} : Dp K G v d → PrAll K G l m → PrAll K G ((k, v) :: l) ((k, d) :: m)
/-- a dict as data -/
def dicD (es : List (Key × D)) : D := .dict (es.map fun p => (keyD p.1, p.2))
theorem PrAll.kvs {K : PySem.W.Frag} {G : Hp} {l : List (Key × V)} {m : List (Key × D)} (h : PrAll K G l m) : DpKvs K G l (m.map fun p => (keyD p.1, p.2)) := by
  induction h with
  | nil => exact .nil
  | cons h1 _ ih => exact .cons h1 ih
def OcOk (K : PySem.W.Frag) (G : Hp) (ho : HO) : OC → Prop
  | .lst ds => ∃ vs, ho = .lst vs ∧ DpAll K G vs ds
  | .dic es => ∃ kvs, ho = .dK kvs ∧ PrAll K G kvs es
  | .ins n fs => ∃ C dx fvs, PySem.W.nsIn K mainGlobals n = some (some (.ref C)) ∧ ho = .ins C dx fvs ∧ PrAll K G fvs fs
section
variable {K : PySem.W.Frag} {G G' : Hp}
theorem PrAll.up {α : Type} {l : List (α × V)} {m : List (α × D)} (h : PrAll K G l m) (e : Same G G') : PrAll K G' l m := by
  induction h with
  | nil => exact .nil
  | cons h1 _ ih => exact .cons (h1.up e) ih
theorem OcOk.up {ho : HO} {o : OC} (h : OcOk K G ho o) (e : Same G G') : OcOk K G' ho o := by
  cases o with
  | lst ds =>
    obtain ⟨vs, q, h⟩ := h
    exact ⟨vs, q, h.up e⟩
  | dic ds =>
    obtain ⟨vs, q, h⟩ := h
    exact ⟨vs, q, h.up e⟩
  | ins C ds =>
    obtain ⟨C, dx, vs, hn, q, h⟩ := h
    exact ⟨C, dx, vs, hn, q, h.up e⟩
theorem OcOk.lst {ho : HO} {ds : List D} (h : OcOk K G ho (.lst ds)) : ∃ vs, ho = .lst vs ∧ DpAll K G vs ds := h
theorem OcOk.dic {ho : HO} {es : List (Key × D)} (h : OcOk K G ho (.dic es)) : ∃ kvs, ho = .dK kvs ∧ PrAll K G kvs es := h
end
def Ob (K : PySem.W.Frag) (c : Act) (G H : Hp) (v : V) (o : OC) : Prop := ∃ p ho, v = .ref p ∧ G p = none ∧ c.H0 p = none ∧ p ≠ c.wa ∧ H p = some ho ∧ OcOk K G ho o
def EntOk (K : PySem.W.Frag) (c : Act) (G H : Hp) (v : V) : Ent → Prop
  | .val d => Dp K G v d
  | .own ds => Ob K c G H v (.lst ds)
  | .dic es => Ob K c G H v (.dic es)
  | .ins b n fs => Ob K c G H v (.ins n fs) ∧ (b = true → v = .ref c.se)
  | .hdl => v = .ref c.wa
  | .tab P q => c.T = [(P, q)]
/-- slot i holds an object of its own -/
def ObAt (s : S) (i : Nat) : Prop := ∃ e, s.ρ[i]? = some (some e) ∧ isOb e = true

/-- neither a table of code objects nor a code object -/
def mutO : HO → Bool
  | .tup _ => false
  | .frz _ _ => false
  | _ => true
theorem OcOk.mu {K : PySem.W.Frag} {G : Hp} {ho : HO} {o : OC} (h : OcOk K G ho o) : mutO ho = true := by
  cases o with
  | lst _ => obtain ⟨_, e, _⟩ := h; rw [e]; rfl
  | dic _ => obtain ⟨_, e, _⟩ := h; rw [e]; rfl
  | ins _ _ => obtain ⟨_, _, _, _, e, _⟩ := h; rw [e]; rfl
/-- neither a table, nor told from outside, nor a tuple -/
def plB : HO → Bool
  | .tbl _ => false
  | .ext _ => false
  | .tup _ => false
  | .frz _ _ => false
  | _ => true
theorem plB_mu {o : HO} (h : plB o = true) : mutO o = true := by cases o <;> first | rfl | cases h
def plain : HO → Bool
  | .tbl _ => false
  | .ext _ => false
  | _ => true
theorem plB_pl {o : HO} (h : plB o = true) : plain o = true := by cases o <;> first | rfl | cases h
theorem TabS.at_ {H : Hp} {P : Addr} {q : Str} (t : LamX.TabS H P q) : ∃ ps, H P = some (.tbl ps) := let ⟨ps, h, _⟩ := t; ⟨ps, h⟩
theorem TabS.ne {H : Hp} {P p : Addr} {q : Str} {o : HO} (t : LamX.TabS H P q) (h : H p = some o) (pl : plain o = true) : P ≠ p := fun z => by
  obtain ⟨ps, e⟩ := TabS.at_ t
  rw [z, h] at e
  cases e
  cases pl
theorem TabS.free {H : Hp} {P p : Addr} {q : Str} (t : LamX.TabS H P q) (h : H p = none) : P ≠ p := fun z => by
  obtain ⟨ps, e⟩ := TabS.at_ t
  rw [z, h] at e
  cases e
theorem TabS.set {H : Hp} {P p : Addr} {q : Str} {o o' : HO} (t : LamX.TabS H P q) (h : H p = some o) (pl : plain o = true) : LamX.TabS (upd H p o') P q := by
  have hP := TabS.ne t h pl
  obtain ⟨ps, h1, h2, h3⟩ := t
  refine ⟨ps, by rw [upd_ne hP]; exact h1, h2, fun pos cv hc => ?_⟩
  obtain ⟨c, e1, e2⟩ := h3 pos cv hc
  refine ⟨c, e1, ?_⟩
  have hc : c ≠ p := fun z => by
    rw [z, h] at e2
    cases e2
    cases pl
  rw [upd_ne hc]
  exact e2
theorem TabS.new {H : Hp} {P p : Addr} {q : Str} {o' : HO} (t : LamX.TabS H P q) (h : H p = none) : LamX.TabS (upd H p o') P q := t.ext fun b o e => (upd_ne (ne_of_none e h)).trans e
theorem _root_.LamX.TabS.exw {H H' : Hp} {P wa : Addr} {q : Str} {l : List V} (t : LamX.TabS H P q) (hw : H wa = some (.lst l)) (h : ∀ a o, H a = some o → a ≠ wa → H' a = some o) : LamX.TabS H' P q := by
  have hP := TabS.ne t hw rfl
  obtain ⟨ps, h1, h2, h3⟩ := t
  refine ⟨ps, h _ _ h1 hP, h2, fun pos cv hc => ?_⟩
  obtain ⟨c, e1, e2⟩ := h3 pos cv hc
  refine ⟨c, e1, h _ _ e2 fun z => ?_⟩
  rw [z, hw] at e2
  cases e2
theorem OcOk.pl {K : PySem.W.Frag} {G : Hp} {ho : HO} {o : OC} (h : OcOk K G ho o) : plain ho = true := by
  cases o with
  | lst ds => obtain ⟨vs, rfl, _⟩ := h; rfl
  | dic es => obtain ⟨vs, rfl, _⟩ := h; rfl
  | ins n fs => obtain ⟨C, dx, fvs, _, rfl, _⟩ := h; rfl
theorem OcOk.plb {K : PySem.W.Frag} {G : Hp} {ho : HO} {o : OC} (h : OcOk K G ho o) : plB ho = true := by
  cases o with
  | lst ds => obtain ⟨vs, rfl, _⟩ := h; rfl
  | dic es => obtain ⟨vs, rfl, _⟩ := h; rfl
  | ins n fs => obtain ⟨C, dx, fvs, _, rfl, _⟩ := h; rfl
structure Base (K : PySem.W.Frag) (c : Act) (G H : Hp) (w : Wst) : Prop where
  sub : Same G H
  wl : H c.wa = some (.lst [.ref c.sc, .int 0, .int w.k])
  wf : G c.wa = none
  scr : SqL K G c.sc (w.ns.map V.int)
  g0 : Same c.G0 G
  h0 : ∀ a o, c.H0 a = some o → a ≠ c.wa → H a = some o
  n0 : ∀ a o, c.H0 a = some o → mutO o = true → c.G0 a = none → G a = none
  tb : ∀ q ∈ c.T, LamX.TabS H q.1 q.2 ∧ G q.1 = none ∧ c.H0 q.1 = none ∧ ∀ a ps, c.H0 a ≠ some (.tbl ps)
  ng : ∀ a ps, G a ≠ some (.tbl ps)
structure Rel (K : PySem.W.Frag) (c : Act) (G H : Hp) (σ : St) (s : S) : Prop where
  b : Base K c G H s.w
  len : s.ρ.length = σ.length
  slot : ∀ (i : Nat) e, s.ρ[i]? = some (some e) → ∃ v, σ[i]? = some (some v) ∧ EntOk K c G H v e
  sep : ∀ (i j : Nat) v, i ≠ j → ObAt s i → ObAt s j → σ[i]? = some (some v) → σ[j]? ≠ some (some v)

section
variable {K : PySem.W.Frag} {c : Act} {G H : Hp} {σ : St} {s : S} {p : Addr}
theorem same_upd {G : Hp} {p : Addr} {o : HO} (h : G p = none) : Same G (upd G p o) := fun b x e => by
  rw [upd_ne (ne_of_none e h)]
  exact e
theorem Base.free (r : Base K c G H s.w) (hp : H p = none) : G p = none ∧ p ≠ c.wa ∧ c.H0 p = none ∧ c.G0 p = none := by
  have hG : G p = none := r.sub.free hp
  have hw : p ≠ c.wa := fun e => by
    have := r.wl
    rw [← e, hp] at this
    cases this
  refine ⟨hG, hw, ?_, r.g0.free hG⟩
  cases q : c.H0 p with
  | none => rfl
  | some o =>
    have := r.h0 p o q hw
    rw [hp] at this
    cases this
/-- a new object that is never changed again -/
theorem Base.alloc (r : Base K c G H s.w) (hp : H p = none) {o : HO} (pl : plain o = true) : Base K c (upd G p o) (upd H p o) s.w := by
  obtain ⟨hG, hw, h0, g0⟩ := r.free hp
  refine ⟨fun a u e => ?_, ?_, ?_, (same_upd hG).seq r.scr, r.g0.trans (same_upd hG), fun a u e n => ?_, fun a u e mu n => ?_, fun q hq => let ⟨t, g, h⟩ := r.tb q hq; ⟨TabS.new t hp, (upd_ne (TabS.free t hp)).trans g, h⟩, fun a ps z => ?_⟩
  rotate_right
  · by_cases h : a = p
    · rw [h, upd_same] at z
      cases z
      cases pl
    · rw [upd_ne h] at z
      exact r.ng a ps z
  · by_cases h : a = p
    · subst h
      rw [upd_same] at e ⊢
      exact e
    · rw [upd_ne h] at e ⊢
      exact r.sub a u e
  · rw [upd_ne (Ne.symm hw)]
    exact r.wl
  · rw [upd_ne (Ne.symm hw)]
    exact r.wf
  · rw [upd_ne (ne_of_none e h0)]
    exact r.h0 a u e n
  · rw [upd_ne (ne_of_none e h0)]
    exact r.n0 a u e mu n
theorem Ob.up {G' H' : Hp} {v : V} {o : OC} (h : Ob K c G H v o) (g : Same G G') (k : ∀ q ho, H q = some ho → G q = none → c.H0 q = none → q ≠ c.wa → mutO ho = true → H' q = some ho ∧ G' q = none) : Ob K c G' H' v o := by
  obtain ⟨q, vs, e, h1, h2, h3, h4, h5⟩ := h
  obtain ⟨k1, k2⟩ := k q vs h4 h1 h2 h3 (OcOk.mu h5)
  exact ⟨q, vs, e, k2, h2, h3, k1, OcOk.up h5 g⟩
theorem EntOk.up {G' H' : Hp} {v : V} {e : Ent} (h : EntOk K c G H v e) (g : Same G G') (k : ∀ q ho, H q = some ho → G q = none → c.H0 q = none → q ≠ c.wa → mutO ho = true → H' q = some ho ∧ G' q = none) : EntOk K c G' H' v e := by
  cases e with
  | val d => exact Dp.up h g
  | hdl => exact h
  | tab _ _ => exact h
  | own _ => exact Ob.up h g k
  | dic _ => exact Ob.up h g k
  | ins _ _ _ => exact ⟨Ob.up h.1 g k, h.2⟩
theorem EntOk.conv {c' : Act} {G' H' : Hp} {v : V} {e : Ent} (h : EntOk K c G H v e) (sm : Same G G') (hw : c'.wa = c.wa) (hse : c'.se = c.se) (hT : c'.T = c.T) (k : isOb e = true → ∀ o, Ob K c G H v o → Ob K c' G' H' v o) : EntOk K c' G' H' v e := by
  cases e with
  | val d => exact Dp.up h sm
  | hdl =>
    show v = .ref c'.wa
    rw [hw]
    exact h
  | tab P q =>
    show c'.T = _
    rw [hT]
    exact h
  | own _ => exact k rfl _ h
  | dic _ => exact k rfl _ h
  | ins _ _ _ => exact ⟨k rfl _ h.1, by rw [hse]; exact h.2⟩
theorem EntOk.ob {v : V} {e : Ent} (h : EntOk K c G H v e) (b : isOb e = true) : ∃ o, Ob K c G H v o := by
  cases e with
  | val d => cases b
  | hdl => cases b
  | tab _ _ => cases b
  | own _ => exact ⟨_, h⟩
  | dic _ => exact ⟨_, h⟩
  | ins _ _ _ => exact ⟨_, h.1⟩
theorem Rel.alloc (r : Rel K c G H σ s) (hp : H p = none) {o : HO} (pl : plain o = true := by rfl) : Rel K c (upd G p o) (upd H p o) σ s := by
  obtain ⟨hG, hw, h0, g0⟩ := r.b.free hp
  refine ⟨r.b.alloc hp pl, r.len, fun i e q => ?_, r.sep⟩
  obtain ⟨v, hv, he⟩ := r.slot i e q
  refine ⟨v, hv, he.up (same_upd hG) fun q vs h1 h2 h3 h4 _ => ?_⟩
  have hn : q ≠ p := ne_of_none h1 hp
  rw [upd_ne hn, upd_ne hn]
  exact ⟨h1, h2⟩
/-- a new list that is not yet frozen (nor tracked by a slot) -/
theorem Rel.allocOwn (r : Rel K c G H σ s) (hp : H p = none) {o : HO} : Rel K c G (upd H p o) σ s := by
  obtain ⟨hG, hw, h0, g0⟩ := r.b.free hp
  refine ⟨⟨fun a u e => ?_, ?_, r.b.wf, r.b.scr, r.b.g0, fun a u e n => ?_, r.b.n0, fun q hq => let ⟨t, g, h⟩ := r.b.tb q hq; ⟨TabS.new t hp, g, h⟩, r.b.ng⟩, r.len, fun i e q => ?_, r.sep⟩
  · rw [upd_ne (ne_of_none e hG)]
    exact r.b.sub a u e
  · rw [upd_ne (Ne.symm hw)]
    exact r.b.wl
  · rw [upd_ne (ne_of_none e h0)]
    exact r.b.h0 a u e n
  · obtain ⟨v, hv, he⟩ := r.slot i e q
    refine ⟨v, hv, he.up (Same.refl _) fun q vs h1 h2 h3 h4 _ => ?_⟩
    rw [upd_ne (ne_of_none h1 hp)]
    exact ⟨h1, h2⟩
theorem drop_get0 {s : S} {i j : Nat} {e : Ent} (q : (s.drop i).ρ[j]? = some (some e)) : s.ρ[j]? = some (some e) := by
  have q : (s.ρ.set i none)[j]? = some (some e) := q
  by_cases h : i = j
  · subst h
    by_cases hl : i < s.ρ.length
    · rw [List.getElem?_set_self hl] at q
      cases q
    · rw [List.set_eq_of_length_le (by omega)] at q
      exact q
  · rwa [List.getElem?_set_ne h] at q
theorem ObAt.drop {s : S} {i j : Nat} (h : ObAt (s.drop i) j) : ObAt s j := let ⟨e, q, b⟩ := h; ⟨e, drop_get0 q, b⟩
/-- an entry of a slot is forgotten -/
theorem Rel.forget (r : Rel K c G H σ s) (i : Nat) : Rel K c G H σ (s.drop i) :=
  ⟨r.b, by simpa using r.len, fun j e q => r.slot j e (drop_get0 q), fun i' j v n h1 h2 => r.sep i' j v n h1.drop h2.drop⟩
theorem put_get0 {s : S} {i j : Nat} {e e' : Ent} (q : (s.put i e).ρ[j]? = some (some e')) : (i = j ∧ i < s.ρ.length ∧ e = e') ∨ (i ≠ j ∧ s.ρ[j]? = some (some e')) := by
  have q : (s.ρ.set i (some e))[j]? = some (some e') := q
  by_cases hj : i = j
  · subst hj
    by_cases hi : i < s.ρ.length
    · rw [List.getElem?_set_self hi] at q
      exact .inl ⟨rfl, hi, by simpa using q⟩
    · rw [List.set_eq_of_length_le (by omega)] at q
      rw [List.getElem?_eq_none (by omega)] at q
      cases q
  · rw [List.getElem?_set_ne hj] at q
    exact .inr ⟨hj, q⟩
/-- a slot is stored -/
theorem Rel.put (r : Rel K c G H σ s) (i : Nat) {v : V} {e : Ent} (h : EntOk K c G H v e)
    (hs : isOb e = true → ∀ (j : Nat), i ≠ j → ObAt s j → σ[j]? ≠ some (some v)) : Rel K c G H (σ.set i (some v)) (s.put i e) := by
  have hl := r.len
  refine ⟨r.b, by simpa using r.len, fun j e' q => ?_, fun j l u n h1 h2 h3 => ?_⟩
  · rcases put_get0 q with ⟨rfl, hi, rfl⟩ | ⟨hj, q⟩
    · exact ⟨v, List.getElem?_set_self (by omega), h⟩
    · rw [List.getElem?_set_ne hj]
      exact r.slot j e' q
  · obtain ⟨e1, q1, b1⟩ := h1
    obtain ⟨e2, q2, b2⟩ := h2
    rcases put_get0 q1 with ⟨rfl, hi, rfl⟩ | ⟨hj, q1⟩
    · rcases put_get0 q2 with ⟨rfl, _, _⟩ | ⟨hl', q2⟩
      · exact absurd rfl n
      · rw [List.getElem?_set_self (by omega)] at h3
        have ev : v = u := by simpa using h3
        subst ev
        rw [List.getElem?_set_ne hl']
        exact hs b1 l hl' ⟨e2, q2, b2⟩
    · rcases put_get0 q2 with ⟨rfl, hi, rfl⟩ | ⟨hl', q2⟩
      · rw [List.getElem?_set_ne hj] at h3
        rw [List.getElem?_set_self (by omega)]
        intro z
        have ev : v = u := by simpa using z
        subst ev
        exact hs b2 j hj ⟨e1, q1, b1⟩ h3
      · rw [List.getElem?_set_ne hj] at h3
        rw [List.getElem?_set_ne hl']
        exact r.sep j l u n ⟨e1, q1, b1⟩ ⟨e2, q2, b2⟩ h3
end
end PD
/-! PD2: readings of expressions by functions of the state of data. -/
namespace PD
open PySem PySem.Spec L2
open PyProof.Rows hiding St

/-- what code gives on a state: a value and the state behind it; an error of the program's own (its number, its fields); what is not carried -/
inductive R (α : Type) where
  | ok (a : α) (s : S)
  | exc (k : Nat) (as : List D) (s : S)
  | bad
@[inline] def R.bind {α β : Type} (r : R α) (f : α → S → R β) : R β :=
  match r with
  | .ok a s => f a s
  | .exc k as s => .exc k as s
  | .bad => .bad
def R.of {α : Type} (o : Option α) (s : S) : R α :=
  match o with
  | some a => .ok a s
  | none => .bad
@[simp] theorem R.bind_ok {α β : Type} (a : α) (s : S) (f : α → S → R β) : (R.ok a s).bind f = f a s := rfl
@[simp] theorem R.bind_exc {α β : Type} (k : Nat) (as : List D) (s : S) (f : α → S → R β) : (R.exc k as s : R α).bind f = .exc k as s := rfl
@[simp] theorem R.bind_bad {α β : Type} (f : α → S → R β) : (R.bad : R α).bind f = .bad := rfl
@[simp] theorem R.of_some {α : Type} (a : α) (s : S) : R.of (some a) s = .ok a s := rfl
@[simp] theorem R.of_none {α : Type} (s : S) : R.of (none : Option α) s = .bad := rfl

/-- the program's own errors: the class's address, its fields' names -/
abbrev ExT := Nat → Option (Addr × List Str)
def ExcIs (K : PySem.W.Frag) (ex : ExT) (k : Nat) (as : List D) (cls : Value) (dx : Option Addr) (G H : Hp) : Prop :=
  ∃ C names d fs vs, ex k = some (C, names) ∧ cls = .ref C ∧ dx = some d ∧ H d = some (.xd fs) ∧ names.map (fun n => fs.lookup n) = vs.map some ∧ DpAll K G vs as

def Post {α : Type} (K : PySem.W.Frag) (ex : ExT) (W : WX) (c : Act) (G : Hp) (σ : St) (N : α → Hp → Hp → S → Prop) : R α → Prop
  | .ok a s' => ∀ G' H', Same G G' → Rel K c G' H' σ s' → N a G' H' s'
  | .exc k as s' => ∀ cls dx G' H', Same G G' → Rel K c G' H' σ s' → ExcIs K ex k as cls dx G' H' → W cls dx σ H'
  | .bad => False

abbrev FE := S → R D
abbrev FA := S → R (List D)
abbrev FT := S → R Bool
def tE (K : PySem.W.Frag) (ex : ExT) (W : WX) (f : FE) : TE := fun σ H Q => ∃ c G s, Rel K c G H σ s ∧ Post K ex W c G σ (fun d G' H' _ => ∀ v, Dp K G' v d → Q v H') (f s)
def tA (K : PySem.W.Frag) (ex : ExT) (W : WX) (f : FA) : TA := fun σ H Q => ∃ c G s, Rel K c G H σ s ∧ Post K ex W c G σ (fun ds G' H' _ => ∀ vs, DpAll K G' vs ds → Q vs H') (f s)
def tT (K : PySem.W.Frag) (ex : ExT) (W : WX) (f : FT) : TT := fun σ H Q => ∃ c G s, Rel K c G H σ s ∧ Post K ex W c G σ (fun b _ H' _ => Q b H') (f s)

section
variable {K : PySem.W.Frag} {ex : ExT} {W : WX} {c : Act} {G H : Hp} {σ : St} {s : S}
theorem Post.up {α : Type} {N : α → Hp → Hp → S → Prop} {G' : Hp} {r : R α} (h : Post K ex W c G σ N r) (e : Same G G') : Post K ex W c G' σ N r := by
  cases r with
  | ok a s => exact fun G2 H2 e2 r2 => h G2 H2 (e.trans e2) r2
  | exc k as s => exact fun cls dx G2 H2 e2 r2 => h cls dx G2 H2 (e.trans e2) r2
  | bad => exact h
theorem Post.imp {α : Type} {N N' : α → Hp → Hp → S → Prop} {r : R α} (h : Post K ex W c G σ N r) (k : ∀ a G' H' s', Same G G' → Rel K c G' H' σ s' → N a G' H' s' → N' a G' H' s') : Post K ex W c G σ N' r := by
  cases r with
  | ok a s => exact fun G2 H2 e2 r2 => k a G2 H2 s e2 r2 (h G2 H2 e2 r2)
  | exc k as s => exact h
  | bad => exact h
/-- first f, then the rest -/
theorem Post.seq {α β : Type} {r : R α} {g : α → S → R β} {M : β → Hp → Hp → S → Prop} {N : α → Hp → Hp → S → Prop} (h : Post K ex W c G σ M (r.bind g))
    (next : ∀ a s' G' H', Same G G' → Rel K c G' H' σ s' → Post K ex W c G' σ M (g a s') → N a G' H' s') : Post K ex W c G σ N r := by
  cases r with
  | ok a s => exact fun G2 H2 e2 r2 => next a s G2 H2 e2 r2 (Post.up h e2)
  | exc k as s => exact h
  | bad => exact h
theorem inE {β : Type} {f : FE} {g : D → S → R β} {M : β → Hp → Hp → S → Prop} {N : V → Hp → Prop} (r : Rel K c G H σ s) (h : Post K ex W c G σ M ((f s).bind g))
    (next : ∀ d s' G' H' v, Same G G' → Rel K c G' H' σ s' → Dp K G' v d → Post K ex W c G' σ M (g d s') → N v H') : tE K ex W f σ H N :=
  ⟨c, G, s, r, Post.seq h fun a s' G' H' e r' q v hv => next a s' G' H' v e r' hv q⟩
theorem inA {β : Type} {f : FA} {g : List D → S → R β} {M : β → Hp → Hp → S → Prop} {N : List V → Hp → Prop} (r : Rel K c G H σ s) (h : Post K ex W c G σ M ((f s).bind g))
    (next : ∀ ds s' G' H' vs, Same G G' → Rel K c G' H' σ s' → DpAll K G' vs ds → Post K ex W c G' σ M (g ds s') → N vs H') : tA K ex W f σ H N :=
  ⟨c, G, s, r, Post.seq h fun a s' G' H' e r' q v hv => next a s' G' H' v e r' hv q⟩
theorem inT {β : Type} {f : FT} {g : Bool → S → R β} {M : β → Hp → Hp → S → Prop} {N : Bool → Hp → Prop} (r : Rel K c G H σ s) (h : Post K ex W c G σ M ((f s).bind g))
    (next : ∀ b s' G' H', Same G G' → Rel K c G' H' σ s' → Post K ex W c G' σ M (g b s') → N b H') : tT K ex W f σ H N :=
  ⟨c, G, s, r, Post.seq h fun a s' G' H' e r' q => next a s' G' H' e r' q⟩
/-- the end of a reading: a value -/
theorem Post.val {d : D} {s' : S} {Q : VK} (h : Post K ex W c G σ (fun d G' H' _ => ∀ v, Dp K G' v d → Q v H') (.ok d s')) {v : V} (r : Rel K c G H σ s') (hv : Dp K G v d) : Q v H :=
  h G H (Same.refl _) r v hv
theorem Post.val' {α : Type} {N : α → Hp → Hp → S → Prop} {a : α} {s' : S} (h : Post K ex W c G σ N (.ok a s')) (r : Rel K c G H σ s') : N a G H s' :=
  h G H (Same.refl _) r
end
/-! ### slots, constants -/
/-- reading a slot: a list of its own is frozen by it -/
def rdSlot (s : S) (i : Nat) : R D :=
  match s.ρ[i]? with
  | some (some (.val d)) => .ok d s
  | some (some (.own ds)) => .ok (.list ds) (s.put i (.val (.list ds)))
  | some (some (.dic es)) => .ok (dicD es) (s.put i (.val (dicD es)))
  | _ => .bad
def fSlot (i : Nat) : FE := fun s => rdSlot s i
def fC (d : D) : FE := fun s => .ok d s
section
variable {X : Cx} {ex : ExT} {W : WX}
/-- an object of a slot's own is known from now on and never changed -/
theorem Rel.freezeAt {K : PySem.W.Frag} {c : Act} {G H : Hp} {σ : St} {s : S} {i : Nat} {p : Addr} {ho : HO} (r : Rel K c G H σ s) (h : ObAt s i) (hv : σ[i]? = some (some (.ref p))) (hG : G p = none) (h0 : c.H0 p = none) (hw : p ≠ c.wa) (hH : H p = some ho) (pl : plain ho = true) :
    Same G (upd G p ho) ∧ Rel K c (upd G p ho) H σ (s.drop i) := by
  have sm : Same G (upd G p ho) := same_upd hG
  have g0 : c.G0 p = none := r.b.g0.free hG
  refine ⟨sm, ?_⟩
  have rf := r.forget i
  refine ⟨⟨fun a u e => ?_, r.b.wl, ?_, sm.seq r.b.scr, r.b.g0.trans sm, r.b.h0, fun a u e mu n => ?_, fun q hq => let ⟨t, g, h⟩ := r.b.tb q hq; ⟨t, (upd_ne (TabS.ne t hH pl)).trans g, h⟩, fun a ps z => by
    by_cases h : a = p
    · rw [h, upd_same] at z
      cases z
      cases pl
    · rw [upd_ne h] at z
      exact r.b.ng a ps z⟩, rf.len, fun j e q => ?_, rf.sep⟩
  · by_cases ha : a = p
    · subst ha
      rw [upd_same] at e
      cases e
      exact hH
    · rw [upd_ne ha] at e
      exact r.b.sub a u e
  · rw [upd_ne (Ne.symm hw)]
    exact r.b.wf
  · rw [upd_ne (ne_of_none e h0)]
    exact r.b.n0 a u e mu n
  · obtain ⟨u, hu, he⟩ := rf.slot j e q
    refine ⟨u, hu, ?_⟩
    have key : isOb e = true → ∀ p', u = .ref p' → p' ≠ p := fun b p' eu z => by
      subst z
      have hij : i ≠ j := fun z => by
        subst z
        have q : (s.ρ.set i none)[i]? = some (some e) := q
        by_cases hl : i < s.ρ.length
        · rw [List.getElem?_set_self hl] at q
          cases q
        · rw [List.set_eq_of_length_le (by omega), List.getElem?_eq_none (by omega)] at q
          cases q
      rw [eu] at hu
      exact r.sep i j _ hij h ⟨e, drop_get0 q, b⟩ hv hu
    have gen : ∀ o, isOb e = true → Ob K c G H u o → Ob K c (upd G p ho) H u o := fun o b ⟨p', vs', e', k1, k2, k3, k4, k5⟩ => by
      have hp := key b p' e'
      refine ⟨p', vs', e', ?_, k2, k3, k4, k5.up sm⟩
      rw [upd_ne hp]
      exact k1
    cases e with
    | val d => exact Dp.up he sm
    | hdl => exact he
    | tab _ _ => exact he
    | own _ => exact gen _ rfl he
    | dic _ => exact gen _ rfl he
    | ins _ _ _ => exact ⟨gen _ rfl he.1, he.2⟩
theorem Rel.frozen {K : PySem.W.Frag} {c : Act} {G H : Hp} {σ : St} {s : S} {i : Nat} {p : Addr} {d : D} (r1 : Rel K c G H σ (s.drop i)) (hv : σ[i]? = some (some (.ref p))) (dl : Dp K G (.ref p) d) : Rel K c G H σ (s.put i (.val d)) := by
  have r2 := r1.put i (v := .ref p) (e := .val d) dl (fun e => nomatch e)
  have e1 : σ.set i (some (.ref p)) = σ := by
    apply List.ext_getElem?
    intro j
    by_cases hj : i = j
    · subst hj
      rw [List.getElem?_set_self (List.getElem?_eq_some_iff.mp hv).1]
      exact hv.symm
    · rw [List.getElem?_set_ne hj]
  have e2 : (s.drop i).put i (.val d) = s.put i (.val d) := by
    show (⟨(s.ρ.set i none).set i (some (.val d)), s.w⟩ : S) = ⟨s.ρ.set i (some (.val d)), s.w⟩
    rw [List.set_set]
  rw [e1, e2] at r2
  exact r2
theorem Rel.freeze {K : PySem.W.Frag} {c : Act} {G H : Hp} {σ : St} {s : S} {i : Nat} {ds : List D} (r : Rel K c G H σ s) (h : s.ρ[i]? = some (some (.own ds))) :
    ∃ v G', Same G G' ∧ σ[i]? = some (some v) ∧ Dp K G' v (.list ds) ∧ Rel K c G' H σ (s.put i (.val (.list ds))) := by
  obtain ⟨v, hv, p, ho, rfl, hG, h0, hw, hH, ⟨vs, rfl, hd⟩⟩ := r.slot i _ h
  obtain ⟨sm, r1⟩ := r.freezeAt ⟨_, h, rfl⟩ hv hG h0 hw hH rfl
  have dl : Dp K (upd G p (.lst vs)) (.ref p) (.list ds) := .lst (SqL.of upd_same) (hd.up sm)
  exact ⟨.ref p, _, sm, hv, dl, r1.frozen hv dl⟩
theorem Rel.freezeD {K : PySem.W.Frag} {c : Act} {G H : Hp} {σ : St} {s : S} {i : Nat} {es : List (Key × D)} (r : Rel K c G H σ s) (h : s.ρ[i]? = some (some (.dic es))) :
    ∃ v G', Same G G' ∧ σ[i]? = some (some v) ∧ Dp K G' v (dicD es) ∧ Rel K c G' H σ (s.put i (.val (dicD es))) := by
  obtain ⟨v, hv, p, ho, rfl, hG, h0, hw, hH, ⟨vs, rfl, hd⟩⟩ := r.slot i _ h
  obtain ⟨sm, r1⟩ := r.freezeAt ⟨_, h, rfl⟩ hv hG h0 hw hH rfl
  have dl : Dp K (upd G p (.dK vs)) (.ref p) (dicD es) := .dct upd_same (hd.up sm).kvs
  exact ⟨.ref p, _, sm, hv, dl, r1.frozen hv dl⟩
theorem eSlot (i : Nat) {x : Str} {pos : Pos} (hN : X.N[i]? = some x := by rfl) (hv : Vis X.env.scope x := by first | exact Or.inl rfl | exact Or.inr (Or.inl rfl) | exact Or.inr (Or.inr rfl)) (hd : (x == ("__debug__" : Str)) = false := by decide)
    (hcd : (x == ("__classdict__" : Str)) = false := by decide) : PE X (.Name x pos) (tE X.K ex W (fSlot i)) := by
  refine PE.imp (pe_var hN hv hd hcd) fun σ H Q h => ?_
  obtain ⟨c, G, s, r, h⟩ := h
  have h : Post X.K ex W c G σ (fun d G' H' _ => ∀ v, Dp X.K G' v d → Q v H') (rdSlot s i) := h
  unfold rdSlot at h
  split at h
  · rename_i d hd
    obtain ⟨v, hv, he⟩ := r.slot i _ hd
    exact ⟨v, hv, h.val r he⟩
  · rename_i ds hd
    obtain ⟨v, G', e, hv, hl, r'⟩ := r.freeze hd
    exact ⟨v, hv, (h.up e).val r' hl⟩
  · rename_i ds hd
    obtain ⟨v, G', e, hv, hl, r'⟩ := r.freezeD hd
    exact ⟨v, hv, (h.up e).val r' hl⟩
  · exact h.elim
theorem eInt {i j pos} : PE X (.Constant (.int i) j pos) (tE X.K ex W (fC (.int i))) := PE.imp pe_int fun _ _ _ ⟨_, _, _, r, h⟩ => h.val r (.int i)
theorem eBl {b j pos} : PE X (.Constant (.bool b) j pos) (tE X.K ex W (fC (.bool b))) := PE.imp pe_bl fun _ _ _ ⟨_, _, _, r, h⟩ => h.val r (.bl b)
theorem eNon {j pos} : PE X (.Constant .none j pos) (tE X.K ex W (fC .none)) := PE.imp pe_non fun _ _ _ ⟨_, _, _, r, h⟩ => h.val r .non
theorem eStr {x j pos} : PE X (.Constant (.str x) j pos) (tE X.K ex W (fC (.str x))) := PE.imp pe_str fun _ _ _ ⟨_, _, _, r, h⟩ => h.val r (.str x)
/-- a constant of the module -/
theorem eGlob {x : Str} {d : D} {v : V} {u : Value} {pos : Pos} (hg : Gl X x) (hm : X.mg x = some u) (rv : RelV v u) (hd : ∀ G, Dp X.K G v d) (hdb : (x == ("__debug__" : Str)) = false := by decide) :
    PE X (.Name x pos) (tE X.K ex W (fC d)) := PE.imp (pe_glob hg hm rv hdb) fun _ _ _ ⟨_, G, _, r, h⟩ => h.val r (hd G)

/-! ### argument lists, displays -/
def fNil : FA := fun s => .ok [] s
def fCons (f : FE) (g : FA) : FA := fun s => (f s).bind fun d s => (g s).bind fun ds s => .ok (d :: ds) s
/-- a starred one -/
def fStar (f : FE) (g : FA) : FA := fun s => (f s).bind fun d s => match d with
  | .list xs => (g s).bind fun ds s => .ok (xs ++ ds) s
  | .tuple xs => (g s).bind fun ds s => .ok (xs ++ ds) s
  | _ => .bad
def fTup (f : FA) : FE := fun s => (f s).bind fun ds s => if ds.length ≤ sizeLine then .ok (.tuple ds) s else .bad
def fLst (f : FA) : FE := fun s => (f s).bind fun ds s => if ds.length ≤ sizeLine then .ok (.list ds) s else .bad
theorem aNil : PA X [] (tA X.K ex W fNil) := PA.imp pa_nil fun _ _ _ ⟨_, _, _, r, h⟩ => h _ _ (Same.refl _) r [] .nil
theorem aCons {e : Expr} {es : List Expr} {f : FE} {g : FA} (hf : PE X e (tE X.K ex W f)) (hg : PA X es (tA X.K ex W g)) (hs : starEach (e :: es) X.env = (false, eval e X.env) :: starEach es X.env := by rfl) :
    PA X (e :: es) (tA X.K ex W (fCons f g)) := PA.imp (pa_cons hf hg hs) fun _ _ _ ⟨_, _, _, r, h⟩ =>
  inE r h fun d s1 G1 H1 v e1 r1 hv h1 => inA r1 h1 fun ds s2 G2 H2 vs e2 r2 hvs h2 => h2 _ _ (Same.refl _) r2 _ (.cons (hv.up e2) hvs)
theorem aStar {e : Expr} {es : List Expr} {p : Pos} {f : FE} {g : FA} (hf : PE X e (tE X.K ex W f)) (hg : PA X es (tA X.K ex W g)) :
    PA X (.Starred e p :: es) (tA X.K ex W (fStar f g)) := PA.imp (StX.pa_star hf hg) fun σ H Q ⟨_, _, _, r, h⟩ =>
  inE r h fun d s1 G1 H1 v e1 r1 hv h1 => by
    cases d with
    | list xs =>
      cases hv with
      | lst q1 q2 => exact ⟨_, _, rfl, .inr (r1.b.sub.seq q1), inA r1 h1 fun ds s2 G2 H2 vs e2 r2 hvs h2 => h2 _ _ (Same.refl _) r2 _ ((q2.up e2).app hvs)⟩
    | tuple xs =>
      cases hv with
      | tup q1 q2 => exact ⟨_, _, rfl, .inl (sqT_mono r1.b.sub q1), inA r1 h1 fun ds s2 G2 H2 vs e2 r2 hvs h2 => h2 _ _ (Same.refl _) r2 _ ((q2.up e2).app hvs)⟩
    | _ => exact h1.elim
/-- a new tuple's reading -/
theorem Rel.newTup {K : PySem.W.Frag} {c : Act} {G H : Hp} {σ : St} {s : S} {p : Addr} {vs : List V} {ds : List D} (r : Rel K c G H σ s) (hp : H p = none) (hd : DpAll K G vs ds) :
    Same G (upd G p (.tup vs)) ∧ Rel K c (upd G p (.tup vs)) (upd H p (.tup vs)) σ s ∧ Dp K (upd G p (.tup vs)) (.ref p) (.tuple ds) := by
  have sm : Same G (upd G p (.tup vs)) := same_upd (r.b.free hp).1
  exact ⟨sm, r.alloc hp, .tup (SqT.of upd_same) (hd.up sm)⟩
theorem Rel.newLst {K : PySem.W.Frag} {c : Act} {G H : Hp} {σ : St} {s : S} {p : Addr} {vs : List V} {ds : List D} (r : Rel K c G H σ s) (hp : H p = none) (hd : DpAll K G vs ds) :
    Same G (upd G p (.lst vs)) ∧ Rel K c (upd G p (.lst vs)) (upd H p (.lst vs)) σ s ∧ Dp K (upd G p (.lst vs)) (.ref p) (.list ds) := by
  have sm : Same G (upd G p (.lst vs)) := same_upd (r.b.free hp).1
  exact ⟨sm, r.alloc hp, .lst (SqL.of upd_same) (hd.up sm)⟩
theorem eTup {es : List Expr} {f : FA} {x1 pos} (h : PA X es (tA X.K ex W f)) : PE X (.Tuple es x1 pos) (tE X.K ex W (fTup f)) := PE.imp (pe_tup h) fun _ _ _ ⟨_, _, _, r, h⟩ =>
  inA r h fun ds s1 G1 H1 vs e1 r1 hvs h1 => by
    by_cases hl : ds.length ≤ sizeLine
    · rw [if_pos hl] at h1
      refine ⟨by rw [hvs.len]; exact hl, fun p hp => ?_⟩
      obtain ⟨sm, r2, hv⟩ := r1.newTup hp hvs
      exact (h1.up sm).val r2 hv
    · rw [if_neg hl] at h1
      exact h1.elim
theorem eLst {es : List Expr} {f : FA} {pos} (h : PA X es (tA X.K ex W f)) : PE X (.List es pos) (tE X.K ex W (fLst f)) := PE.imp (pe_lst h) fun _ _ _ ⟨_, _, _, r, h⟩ =>
  inA r h fun ds s1 G1 H1 vs e1 r1 hvs h1 => by
    by_cases hl : ds.length ≤ sizeLine
    · rw [if_pos hl] at h1
      refine ⟨by rw [hvs.len]; exact hl, fun p hp => ?_⟩
      obtain ⟨sm, r2, hv⟩ := r1.newLst hp hvs
      exact (h1.up sm).val r2 hv
    · rw [if_neg hl] at h1
      exact h1.elim

/-! ### operators -/
def fBin (op : D → D → Option D) (f g : FE) : FE := fun s => (f s).bind fun a s => (g s).bind fun b s => R.of (op a b) s
/-- an operation by values is told by op -/
def OpD (K : PySem.W.Frag) (r : R2) (op : D → D → Option D) : Prop :=
  ∀ (c : Act) (G H : Hp) (σ : St) (s : S) (x y : V) (a b d : D) (Q : VK), Rel K c G H σ s → Dp K G x a → Dp K G y b → op a b = some d →
    (∀ v G' H', Same G G' → Rel K c G' H' σ s → Dp K G' v d → Q v H') → r x y H Q
theorem opFin {K : PySem.W.Frag} {c : Act} {G H : Hp} {σ : St} {s : S} {x y : V} {a b : D} {r : R2} {op : D → D → Option D} {Q : VK} (ho : OpD K r op) (rl : Rel K c G H σ s) (hx : Dp K G x a) (hy : Dp K G y b)
    (h : Post K ex W c G σ (fun d G' H' _ => ∀ v, Dp K G' v d → Q v H') (R.of (op a b) s)) : r x y H Q := by
  cases e : op a b with
  | none =>
    rw [e] at h
    exact h.elim
  | some d =>
    rw [e] at h
    exact ho c G H σ s x y a b d Q rl hx hy e fun v G' H' sm r' hv => (Post.up h sm).val r' hv
theorem eBin {a b : Expr} {op : Operator} {pos : Pos} {r : R2} {o : D → D → Option D} {f g : FE} (ho : OpR X (binaryOp op) r) (hd : OpD X.K r o) (hf : PE X a (tE X.K ex W f)) (hg : PE X b (tE X.K ex W g)) :
    PE X (.BinOp a op b pos) (tE X.K ex W (fBin o f g)) := PE.imp (pe_op ho hf hg) fun _ _ _ ⟨_, _, _, r, h⟩ =>
  inE r h fun d s1 G1 H1 v e1 r1 hv h1 => inE r1 h1 fun d' s2 G2 H2 v' e2 r2 hv' h2 => opFin hd r2 (hv.up e2) hv' h2
theorem eCmp {a b : Expr} {op : CmpOp} {pos : Pos} {r : R2} {o : D → D → Option D} {f g : FE} (ho : OpR X (compareOp op) r) (hd : OpD X.K r o) (hf : PE X a (tE X.K ex W f)) (hg : PE X b (tE X.K ex W g)) (hm : behindInMarks op b = false := by first | exact nomark _ | rfl) :
    PE X (.Compare a [op] [b] pos) (tE X.K ex W (fBin o f g)) := PE.imp (pe_cmpR ho hf hg hm) fun _ _ _ ⟨_, _, _, r, h⟩ =>
  inE r h fun d s1 G1 H1 v e1 r1 hv h1 => inE r1 h1 fun d' s2 G2 H2 v' e2 r2 hv' h2 => opFin hd r2 (hv.up e2) hv' h2
end

/-! the operators -/
def dI (g : Int → Int → Option Int) (a b : D) : Option D :=
  match a, b with
  | .int i, .int j => (g i j).map .int
  | _, _ => none
def dB (g : Int → Int → Bool) (a b : D) : Option D :=
  match a, b with
  | .int i, .int j => some (.bool (g i j))
  | _, _ => none
section
variable {K : PySem.W.Frag}
theorem opdI {C : Int → Int → Prop} {g : Int → Int → Int} {o : Int → Int → Option Int} (h : ∀ i j k, o i j = some k → C i j ∧ k = g i j) : OpD K (rI C fun i j => .int (g i j)) (dI o) := by
  intro c G H σ s x y a b d Q r hx hy e q
  unfold dI at e
  split at e
  · rename_i i j
    cases hx
    cases hy
    cases e2 : o i j with
    | none => rw [e2] at e; cases e
    | some k =>
      rw [e2] at e
      cases e
      obtain ⟨h1, rfl⟩ := h i j k e2
      exact ⟨i, j, rfl, rfl, h1, q _ G H (Same.refl _) r (.int _)⟩
  · cases e
theorem opdI0 {g : Int → Int → Int} : OpD K (rI0 fun i j => .int (g i j)) (dI fun i j => some (g i j)) := by
  intro c G H σ s x y a b d Q r hx hy e q
  unfold dI at e
  split at e
  · rename_i i j
    cases hx
    cases hy
    cases e
    exact ⟨i, j, rfl, rfl, q _ G H (Same.refl _) r (.int _)⟩
  · cases e
theorem opdB0 {g : Int → Int → Bool} : OpD K (rI0 fun i j => .bl (g i j)) (dB g) := by
  intro c G H σ s x y a b d Q r hx hy e q
  unfold dB at e
  split at e
  · rename_i i j
    cases hx
    cases hy
    cases e
    exact ⟨i, j, rfl, rfl, q _ G H (Same.refl _) r (.bl _)⟩
  · cases e
theorem OpD.or {r r' : R2} {o o' : D → D → Option D} (h : OpD K r o) (h' : OpD K r' o') : OpD K (fun x y H Q => r x y H Q ∨ r' x y H Q) (fun a b => (o a b).or (o' a b)) := by
  intro c G H σ s x y a b d Q rl hx hy e q
  cases e1 : o a b with
  | some d1 =>
    have : d1 = d := by simpa [e1] using e
    subst this
    exact .inl (h c G H σ s x y a b _ Q rl hx hy e1 q)
  | none =>
    have : o' a b = some d := by simpa [e1] using e
    exact .inr (h' c G H σ s x y a b _ Q rl hx hy this q)
end
end PD
/-! PD3: the operators' functions; tests; lists of one's own; built-in calls. -/
namespace PD
open PySem PySem.Spec L2
open PyProof.Rows hiding St

/-! ### operators by data -/
def dAddI : D → D → Option D := dI fun i j => some (i + j)
def dAddS (a b : D) : Option D :=
  match a, b with
  | .str x, .str y => if x.length + y.length ≤ sizeLine then some (.str (x ++ y)) else none
  | _, _ => none
def dAddT (a b : D) : Option D :=
  match a, b with
  | .tuple x, .tuple y => if x.length + y.length ≤ sizeLine then some (.tuple (x ++ y)) else none
  | _, _ => none
def dSub : D → D → Option D := dI fun i j => some (i - j)
instance : Decidable (CMul i j) := by unfold CMul; infer_instance
instance : Decidable (CMulW i j) := by unfold CMulW; infer_instance
instance : Decidable (CDivW i j) := by unfold CDivW; infer_instance
instance : Decidable (CShl i j) := by unfold CShl; infer_instance
instance : Decidable (CPow i j) := by unfold CPow; infer_instance
def CMulX (i j : Int) : Prop := CMul i j ∨ CMulW i j
instance : Decidable (CMulX i j) := by unfold CMulX; infer_instance
theorem CMulX.ok {i j : Int} (h : CMulX i j) : IntMulOk i j := h.elim CMul.ok CMulW.ok
theorem op_mulX {X : Cx} : OpR X (binaryOp .Mult) (rI CMulX fun i j => .int (i * j)) := opI fun _ _ _ _ _ _ _ hc q => mul_int q hc.ok
theorem iop_mulX {X : Cx} : OpR X (inplaceOp .Mult) (rI CMulX fun i j => .int (i * j)) := opI fun _ _ _ _ _ _ _ hc q => imul_int q hc.ok
def dMul : D → D → Option D := dI fun i j => if CMulX i j then some (i * j) else none
def dDiv : D → D → Option D := dI fun i j => if CDivW i j then some (i / j) else none
def dMod : D → D → Option D := dI fun i j => if 0 < j then some (i % j) else none
def dPow : D → D → Option D := dI fun i j => if CPow i j then some (i ^ j.toNat) else none
def dShl : D → D → Option D := dI fun i j => if CShl i j then some (i * 2 ^ j.toNat) else none
def dShr : D → D → Option D := dI fun i j => if 0 ≤ j then some (i / 2 ^ j.toNat) else none
def dAnd : D → D → Option D := dI fun i j => some (Builtin.bitAnd i j)
def dOr : D → D → Option D := dI fun i j => some (Builtin.bitOr i j)
def dXor : D → D → Option D := dI fun i j => some (Builtin.bitXor i j)
def dLt : D → D → Option D := dB fun i j => decide (i < j)
def dLe : D → D → Option D := dB fun i j => decide (i ≤ j)
def dGt : D → D → Option D := dB fun i j => decide (j < i)
def dGe : D → D → Option D := dB fun i j => decide (j ≤ i)
/-- == of data of any depth -/
def dEq (a b : D) : Option D := if SeqAt.shaped a = true ∧ SeqAt.shaped b = true then some (.bool (PyData.eqv a b)) else none
def dNe (a b : D) : Option D := if SeqAt.shaped a = true ∧ SeqAt.shaped b = true then some (.bool (!PyData.eqv a b)) else none
def isNone : D → Bool
  | .none => true
  | _ => false
def dIsN (a b : D) : Option D := match b with | .none => some (.bool (isNone a)) | _ => none
def dNotN (a b : D) : Option D := match b with | .none => some (.bool (!isNone a)) | _ => none
section
variable {K : PySem.W.Frag}
theorem opdIf {C : Int → Int → Prop} [∀ i j, Decidable (C i j)] {g : Int → Int → Int} : OpD K (rI C fun i j => .int (g i j)) (dI fun i j => if C i j then some (g i j) else none) := opdI fun i j k e => by
  by_cases h : C i j
  · rw [if_pos h] at e
    cases e
    exact ⟨h, rfl⟩
  · rw [if_neg h] at e
    cases e
theorem od_addI : OpD K (rI0 fun i j => .int (i + j)) dAddI := opdI0
theorem od_sub : OpD K (rI0 fun i j => .int (i - j)) dSub := opdI0
theorem od_and : OpD K (rI0 fun i j => .int (Builtin.bitAnd i j)) dAnd := opdI0
theorem od_or : OpD K (rI0 fun i j => .int (Builtin.bitOr i j)) dOr := opdI0
theorem od_xor : OpD K (rI0 fun i j => .int (Builtin.bitXor i j)) dXor := opdI0
theorem od_mul : OpD K (rI CMulX fun i j => .int (i * j)) dMul := opdIf
theorem od_div : OpD K (rI CDivW fun i j => .int (i / j)) dDiv := opdIf
theorem od_mod : OpD K (rI (fun _ j => 0 < j) fun i j => .int (i % j)) dMod := opdIf (C := fun _ j => 0 < j) (g := fun i j => i % j)
theorem od_pow : OpD K (rI CPow fun i j => .int (i ^ j.toNat)) dPow := opdIf
theorem od_shl : OpD K (rI CShl fun i j => .int (i * 2 ^ j.toNat)) dShl := opdIf
theorem od_shr : OpD K (rI (fun _ j => 0 ≤ j) fun i j => .int (i / 2 ^ j.toNat)) dShr := opdIf (C := fun _ j => 0 ≤ j) (g := fun i j => i / 2 ^ j.toNat)
theorem od_lt : OpD K (rI0 fun i j => .bl (decide (i < j))) dLt := opdB0
theorem od_le : OpD K (rI0 fun i j => .bl (decide (i ≤ j))) dLe := opdB0
theorem od_gt : OpD K (rI0 fun i j => .bl (decide (j < i))) dGt := opdB0
theorem od_ge : OpD K (rI0 fun i j => .bl (decide (j ≤ i))) dGe := opdB0
def rAddS : R2 := fun x y H Q => ∃ i j, x = .str i ∧ y = .str j ∧ i.length + j.length ≤ sizeLine ∧ Q (.str (i ++ j)) H
theorem od_addS : OpD K rAddS dAddS := by
  intro c G H σ s x y a b d Q r hx hy e q
  unfold dAddS at e
  split at e
  · rename_i i j
    cases hx
    cases hy
    by_cases h : i.length + j.length ≤ sizeLine
    · rw [if_pos h] at e
      cases e
      exact ⟨i, j, rfl, rfl, h, q _ G H (Same.refl _) r (.str _)⟩
    · rw [if_neg h] at e
      cases e
  · cases e
theorem od_addT : OpD K (rCatA K) dAddT := by
  intro c G H σ s x y a b d Q r hx hy e q
  unfold dAddT at e
  split at e
  · rename_i i j
    cases hx with
    | tup q1 q2 =>
      cases hy with
      | tup q3 q4 =>
        rename_i a xs b ys
        by_cases h : i.length + j.length ≤ sizeLine
        · rw [if_pos h] at e
          cases e
          refine ⟨a, b, xs, ys, rfl, rfl, sqT_mono r.b.sub q1, sqT_mono r.b.sub q3, by rw [q2.len, q4.len]; exact h, fun z => ?_, fun _ z => ?_, fun _ _ p hp => ?_⟩
          · subst z
            cases q2
            exact q _ G H (Same.refl _) r (.tup q3 q4)
          · subst z
            cases q4
            rw [List.append_nil] at q
            exact q _ G H (Same.refl _) r (.tup q1 q2)
          · obtain ⟨sm, r2, hv⟩ := r.newTup hp (q2.app q4)
            exact q _ _ _ sm r2 hv
        · rw [if_neg h] at e
          cases e
  · cases e
theorem od_eq : OpD K (rEqD K) dEq := by
  intro c G H σ s x y a b d Q r hx hy e q
  unfold dEq at e
  split at e
  · rename_i h
    cases e
    exact ⟨a, b, (hx.up r.b.sub).kit h.1, (hy.up r.b.sub).kit h.2, h.1, h.2, q _ G H (Same.refl _) r (.bl _)⟩
  · cases e
theorem od_ne : OpD K (rNeD K) dNe := by
  intro c G H σ s x y a b d Q r hx hy e q
  unfold dNe at e
  split at e
  · rename_i h
    cases e
    exact ⟨a, b, (hx.up r.b.sub).kit h.1, (hy.up r.b.sub).kit h.2, h.1, h.2, q _ G H (Same.refl _) r (.bl _)⟩
  · cases e
theorem none_of {G : Hp} {x : V} {a : D} (h : Dp K G x a) : decide (x = .non) = isNone a := by cases h <;> rfl
theorem od_isN : OpD K (fun x y H Q => y = .non ∧ Q (.bl (decide (x = .non))) H) dIsN := by
  intro c G H σ s x y a b d Q r hx hy e q
  unfold dIsN at e
  split at e
  · cases hy
    cases e
    refine ⟨rfl, ?_⟩
    rw [none_of hx]
    exact q _ G H (Same.refl _) r (.bl _)
  · cases e
theorem od_notN : OpD K (fun x y H Q => y = .non ∧ Q (.bl (!decide (x = .non))) H) dNotN := by
  intro c G H σ s x y a b d Q r hx hy e q
  unfold dNotN at e
  split at e
  · cases hy
    cases e
    refine ⟨rfl, ?_⟩
    rw [none_of hx]
    exact q _ G H (Same.refl _) r (.bl _)
  · cases e
end
section
variable {X : Cx} {ex : ExT} {W : WX} {a b : Expr} {f g : FE} {pos : Pos}
theorem eAdd (hf : PE X a (tE X.K ex W f)) (hg : PE X b (tE X.K ex W g)) : PE X (.BinOp a .Add b pos) (tE X.K ex W (fBin dAddI f g)) := eBin op_add od_addI hf hg
theorem eAddS (hf : PE X a (tE X.K ex W f)) (hg : PE X b (tE X.K ex W g)) : PE X (.BinOp a .Add b pos) (tE X.K ex W (fBin dAddS f g)) := eBin (r := rAddS) op_add_str od_addS hf hg
theorem eAddT (hf : PE X a (tE X.K ex W f)) (hg : PE X b (tE X.K ex W g)) : PE X (.BinOp a .Add b pos) (tE X.K ex W (fBin dAddT f g)) := eBin op_catA od_addT hf hg
theorem eSub (hf : PE X a (tE X.K ex W f)) (hg : PE X b (tE X.K ex W g)) : PE X (.BinOp a .Sub b pos) (tE X.K ex W (fBin dSub f g)) := eBin op_sub od_sub hf hg
theorem eMul (hf : PE X a (tE X.K ex W f)) (hg : PE X b (tE X.K ex W g)) : PE X (.BinOp a .Mult b pos) (tE X.K ex W (fBin dMul f g)) := eBin op_mulX od_mul hf hg
theorem eDiv (hf : PE X a (tE X.K ex W f)) (hg : PE X b (tE X.K ex W g)) : PE X (.BinOp a .FloorDiv b pos) (tE X.K ex W (fBin dDiv f g)) := eBin op_fdivW od_div hf hg
theorem eMod (hf : PE X a (tE X.K ex W f)) (hg : PE X b (tE X.K ex W g)) : PE X (.BinOp a .Mod b pos) (tE X.K ex W (fBin dMod f g)) := eBin op_mod od_mod hf hg
theorem ePow (hf : PE X a (tE X.K ex W f)) (hg : PE X b (tE X.K ex W g)) : PE X (.BinOp a .Pow b pos) (tE X.K ex W (fBin dPow f g)) := eBin op_pow od_pow hf hg
theorem eShl (hf : PE X a (tE X.K ex W f)) (hg : PE X b (tE X.K ex W g)) : PE X (.BinOp a .LShift b pos) (tE X.K ex W (fBin dShl f g)) := eBin op_shlW od_shl hf hg
theorem eShr (hf : PE X a (tE X.K ex W f)) (hg : PE X b (tE X.K ex W g)) : PE X (.BinOp a .RShift b pos) (tE X.K ex W (fBin dShr f g)) := eBin op_shr od_shr hf hg
theorem eAndB (hf : PE X a (tE X.K ex W f)) (hg : PE X b (tE X.K ex W g)) : PE X (.BinOp a .BitAnd b pos) (tE X.K ex W (fBin dAnd f g)) := eBin op_and od_and hf hg
theorem eOrB (hf : PE X a (tE X.K ex W f)) (hg : PE X b (tE X.K ex W g)) : PE X (.BinOp a .BitOr b pos) (tE X.K ex W (fBin dOr f g)) := eBin op_or od_or hf hg
theorem eXorB (hf : PE X a (tE X.K ex W f)) (hg : PE X b (tE X.K ex W g)) : PE X (.BinOp a .BitXor b pos) (tE X.K ex W (fBin dXor f g)) := eBin op_xor od_xor hf hg
theorem eLt (hf : PE X a (tE X.K ex W f)) (hg : PE X b (tE X.K ex W g)) : PE X (.Compare a [.Lt] [b] pos) (tE X.K ex W (fBin dLt f g)) := eCmp op_lt od_lt hf hg
theorem eLe (hf : PE X a (tE X.K ex W f)) (hg : PE X b (tE X.K ex W g)) : PE X (.Compare a [.LtE] [b] pos) (tE X.K ex W (fBin dLe f g)) := eCmp op_le od_le hf hg
theorem eGt (hf : PE X a (tE X.K ex W f)) (hg : PE X b (tE X.K ex W g)) : PE X (.Compare a [.Gt] [b] pos) (tE X.K ex W (fBin dGt f g)) := eCmp op_gt od_gt hf hg
theorem eGe (hf : PE X a (tE X.K ex W f)) (hg : PE X b (tE X.K ex W g)) : PE X (.Compare a [.GtE] [b] pos) (tE X.K ex W (fBin dGe f g)) := eCmp op_ge od_ge hf hg
theorem eEq {k : Nat} (hr : Room k X.A) (hf : PE X a (tE X.K ex W f)) (hg : PE X b (tE X.K ex W g)) : PE X (.Compare a [.Eq] [b] pos) (tE X.K ex W (fBin dEq f g)) := eCmp (op_eqD hr.units) od_eq hf hg
theorem eNe {k : Nat} (hr : Room k X.A) (hf : PE X a (tE X.K ex W f)) (hg : PE X b (tE X.K ex W g)) : PE X (.Compare a [.NotEq] [b] pos) (tE X.K ex W (fBin dNe f g)) := eCmp (op_neD hr.units) od_ne hf hg
theorem eIsN (hf : PE X a (tE X.K ex W f)) (hg : PE X b (tE X.K ex W g)) : PE X (.Compare a [.Is] [b] pos) (tE X.K ex W (fBin dIsN f g)) := eCmp op_isN od_isN hf hg
theorem eNotN (hf : PE X a (tE X.K ex W f)) (hg : PE X b (tE X.K ex W g)) : PE X (.Compare a [.IsNot] [b] pos) (tE X.K ex W (fBin dNotN f g)) := eCmp op_notN od_notN hf hg

/-! ### tests, and, or, not, if .. else -/
def toB (d : D) (s : S) : R Bool :=
  match d with
  | .bool b => .ok b s
  | _ => .bad
def tVal (f : FE) : FT := fun s => (f s).bind toB
def fAnd (f g : FT) : FT := fun s => (f s).bind fun b s => if b = true then g s else .ok false s
def fOr (f g : FT) : FT := fun s => (f s).bind fun b s => if b = true then .ok true s else g s
def fNot (f : FT) : FT := fun s => (f s).bind fun b s => .ok (!b) s
def fAndV (f g : FE) : FE := fun s => (f s).bind fun d s => (toB d s).bind fun b s => if b = true then g s else .ok (.bool false) s
def fOrV (f g : FE) : FE := fun s => (f s).bind fun d s => (toB d s).bind fun b s => if b = true then .ok (.bool true) s else g s
def fNotV (f : FE) : FE := fun s => (f s).bind fun d s => (toB d s).bind fun b s => .ok (.bool (!b)) s
def fIf (c : FT) (f g : FE) : FE := fun s => (c s).bind fun b s => if b = true then f s else g s
theorem toB_in {α : Type} {K : PySem.W.Frag} {c : Act} {G : Hp} {σ : St} {s : S} {d : D} {v : V} {g : Bool → S → R α} {N : α → Hp → Hp → S → Prop} (hv : Dp K G v d) (h : Post K ex W c G σ N ((toB d s).bind g)) : ∃ b, d = .bool b ∧ v = .bl b ∧ Post K ex W c G σ N (g b s) := by
  cases d with
  | bool b =>
    cases hv
    exact ⟨b, rfl, rfl, h⟩
  | _ => exact h.elim
theorem tOf (hf : PE X a (tE X.K ex W f)) (he : ∀ whole, isTrue a X.env whole = (do let v ← whole; standAt a.pos; holding [v] (truthy v)) := by intro _; rfl) : PT X a (tT X.K ex W (tVal f)) :=
  PT.imp (pt_val hf he) fun σ H Q ⟨_, _, _, r, h⟩ => inE r h fun d s1 G1 H1 v e1 r1 hv h1 => by
    cases d with
    | bool b =>
      cases hv
      exact ⟨b, rfl, h1.val' r1⟩
    | _ => exact h1.elim
variable {c d : FT} {rest : List Expr} {pos' : Pos}
theorem tAnd1 (h : PT X a (tT X.K ex W c)) : PW X (.BoolOp .And [a] pos) (tT X.K ex W c) := pw_and1 h
theorem tOr1 (h : PT X a (tT X.K ex W c)) : PW X (.BoolOp .Or [a] pos) (tT X.K ex W c) := pw_or1 h
theorem tAndW (h : PT X a (tT X.K ex W c)) (h' : PW X (.BoolOp .And (b :: rest) pos) (tT X.K ex W d)) : PW X (.BoolOp .And (a :: b :: rest) pos) (tT X.K ex W (fAnd c d)) :=
  PW.imp (pw_and h h') fun σ H Q ⟨_, _, _, r, q⟩ => inT r q fun k s1 G1 H1 e1 r1 q1 => by
    cases k with
    | true => exact ⟨_, _, _, r1, q1⟩
    | false => exact q1.val' r1
theorem tOrW (h : PT X a (tT X.K ex W c)) (h' : PW X (.BoolOp .Or (b :: rest) pos) (tT X.K ex W d)) : PW X (.BoolOp .Or (a :: b :: rest) pos) (tT X.K ex W (fOr c d)) :=
  PW.imp (pw_or h h') fun σ H Q ⟨_, _, _, r, q⟩ => inT r q fun k s1 G1 H1 e1 r1 q1 => by
    cases k with
    | false => exact ⟨_, _, _, r1, q1⟩
    | true => exact q1.val' r1
theorem tNotT (h : PT X a (tT X.K ex W c)) : PT X (.UnaryOp .Not a pos) (tT X.K ex W (fNot c)) :=
  PT.imp (pt_not h) fun σ H Q ⟨_, _, _, r, q⟩ => inT r q fun k s1 G1 H1 e1 r1 q1 => q1.val' r1
theorem eAndV {f g : FE} (h : PE X a (tE X.K ex W f)) (h' : PE X (.BoolOp .And (b :: rest) pos) (tE X.K ex W g)) : PE X (.BoolOp .And (a :: b :: rest) pos) (tE X.K ex W (fAndV f g)) :=
  PE.imp (pe_and h h') fun σ H Q ⟨_, _, _, r, q⟩ => inE r q fun dd s1 G1 H1 v e1 r1 hv q1 => by
    obtain ⟨k, rfl, rfl, q2⟩ := toB_in hv q1
    refine ⟨k, rfl, ?_⟩
    cases k with
    | true => exact ⟨_, _, _, r1, q2⟩
    | false => exact q2.val r1 (.bl _)
theorem eOrV {f g : FE} (h : PE X a (tE X.K ex W f)) (h' : PE X (.BoolOp .Or (b :: rest) pos) (tE X.K ex W g)) : PE X (.BoolOp .Or (a :: b :: rest) pos) (tE X.K ex W (fOrV f g)) :=
  PE.imp (pe_or h h') fun σ H Q ⟨_, _, _, r, q⟩ => inE r q fun dd s1 G1 H1 v e1 r1 hv q1 => by
    obtain ⟨k, rfl, rfl, q2⟩ := toB_in hv q1
    refine ⟨k, rfl, ?_⟩
    cases k with
    | false => exact ⟨_, _, _, r1, q2⟩
    | true => exact q2.val r1 (.bl _)
theorem eOneV {op} {f : FE} (h : PE X a (tE X.K ex W f)) : PE X (.BoolOp op [a] pos) (tE X.K ex W f) := pe_one h
theorem eNotV {f : FE} (h : PE X a (tE X.K ex W f)) : PE X (.UnaryOp .Not a pos) (tE X.K ex W (fNotV f)) :=
  PE.imp (pe_not h) fun σ H Q ⟨_, _, _, r, q⟩ => inE r q fun dd s1 G1 H1 v e1 r1 hv q1 => by
    obtain ⟨k, rfl, rfl, q2⟩ := toB_in hv q1
    exact ⟨k, rfl, q2.val r1 (.bl _)⟩
theorem eIfE {t : Expr} {f g : FE} (hc : PT X t (tT X.K ex W c)) (hf : PE X a (tE X.K ex W f)) (hg : PE X b (tE X.K ex W g)) : PE X (.IfExp t a b pos) (tE X.K ex W (fIf c f g)) :=
  PE.imp (pe_ifExp hc hf hg) fun σ H Q ⟨_, _, _, r, q⟩ => inT r q fun k s1 G1 H1 e1 r1 q1 => by
    cases k with
    | true => exact ⟨_, _, _, r1, q1⟩
    | false => exact ⟨_, _, _, r1, q1⟩
/-- -a -/
def fNeg (f : FE) : FE := fun s => (f s).bind fun d s => match d with
  | .int i => .ok (.int (-i)) s
  | _ => .bad
theorem eNeg {f : FE} (h : PE X a (tE X.K ex W f)) : PE X (.UnaryOp .USub a pos) (tE X.K ex W (fNeg f)) :=
  PE.imp (pe_un un_neg h) fun σ H Q ⟨_, _, _, r, q⟩ => inE r q fun dd s1 G1 H1 v e1 r1 hv q1 => by
    cases dd with
    | int i =>
      cases hv
      exact ⟨i, rfl, q1.val r1 (.int _)⟩
    | _ => exact q1.elim
end
end PD
/-! PD4: statements, targets, loops. -/
namespace PD
open PySem PySem.Spec L2
open PyProof.Rows hiding St

/-- what a statement does on a state -/
inductive O where
  | nx (s : S)
  | rt (d : D) (s : S)
  | bk (s : S)
  | ct (s : S)
  | exc (k : Nat) (as : List D) (s : S)
  | bad
abbrev FO := S → O
@[inline] def R.stm {α : Type} (r : R α) (f : α → S → O) : O :=
  match r with
  | .ok a s => f a s
  | .exc k as s => .exc k as s
  | .bad => .bad
@[inline] def O.seq (o : O) (f : S → O) : O :=
  match o with
  | .nx s => f s
  | o => o
@[simp] theorem R.stm_ok {α : Type} (a : α) (s : S) (f : α → S → O) : (R.ok a s).stm f = f a s := rfl
@[simp] theorem R.stm_exc {α : Type} (k : Nat) (as : List D) (s : S) (f : α → S → O) : (R.exc k as s : R α).stm f = .exc k as s := rfl
@[simp] theorem R.stm_bad {α : Type} (f : α → S → O) : (R.bad : R α).stm f = .bad := rfl
@[simp] theorem O.seq_nx (s : S) (f : S → O) : (O.nx s).seq f = f s := rfl
@[simp] theorem O.seq_rt (d : D) (s : S) (f : S → O) : (O.rt d s).seq f = .rt d s := rfl
@[simp] theorem O.seq_bk (s : S) (f : S → O) : (O.bk s).seq f = .bk s := rfl
@[simp] theorem O.seq_ct (s : S) (f : S → O) : (O.ct s).seq f = .ct s := rfl
@[simp] theorem O.seq_exc (k : Nat) (as : List D) (s : S) (f : S → O) : (O.exc k as s).seq f = .exc k as s := rfl
@[simp] theorem O.seq_bad (f : S → O) : (O.bad).seq f = .bad := rfl

def PostO (K : PySem.W.Frag) (ex : ExT) (W : WX) (c : Act) (G : Hp) (En : Ends) : O → Prop
  | .nx s' => ∀ σ' G' H', Same G G' → Rel K c G' H' σ' s' → En.nx σ' H'
  | .rt d s' => ∀ v σ' G' H', Same G G' → Rel K c G' H' σ' s' → Dp K G' v d → En.rt v H'
  | .bk s' => ∀ σ' G' H', Same G G' → Rel K c G' H' σ' s' → En.bk σ' H'
  | .ct s' => ∀ σ' G' H', Same G G' → Rel K c G' H' σ' s' → En.ct σ' H'
  | .exc k as s' => ∀ cls dx σ' G' H', Same G G' → Rel K c G' H' σ' s' → ExcIs K ex k as cls dx G' H' → W cls dx σ' H'
  | .bad => False
def tS (K : PySem.W.Frag) (ex : ExT) (W : WX) (f : FO) : TS := fun En σ H => ∃ c G s, Rel K c G H σ s ∧ PostO K ex W c G En (f s)
section
variable {K : PySem.W.Frag} {ex : ExT} {W : WX} {c : Act} {G H : Hp} {σ : St} {s : S} {En : Ends}
theorem PostO.up {G' : Hp} {o : O} (h : PostO K ex W c G En o) (e : Same G G') : PostO K ex W c G' En o := by
  cases o with
  | nx s => exact fun σ' G2 H2 e2 r2 => h σ' G2 H2 (e.trans e2) r2
  | rt d s => exact fun v σ' G2 H2 e2 r2 => h v σ' G2 H2 (e.trans e2) r2
  | bk s => exact fun σ' G2 H2 e2 r2 => h σ' G2 H2 (e.trans e2) r2
  | ct s => exact fun σ' G2 H2 e2 r2 => h σ' G2 H2 (e.trans e2) r2
  | exc k as s => exact fun cls dx σ' G2 H2 e2 r2 => h cls dx σ' G2 H2 (e.trans e2) r2
  | bad => exact h
theorem PostO.fromR {α : Type} {r : R α} {g : α → S → O} {N : α → Hp → Hp → S → Prop} (h : PostO K ex W c G En (r.stm g)) (next : ∀ a s' G' H', Same G G' → Rel K c G' H' σ s' → PostO K ex W c G' En (g a s') → N a G' H' s') : Post K ex W c G σ N r := by
  cases r with
  | ok a s => exact fun G2 H2 e2 r2 => next a s G2 H2 e2 r2 (h.up e2)
  | exc k as s => exact fun cls dx G2 H2 e2 r2 hx => h cls dx σ G2 H2 e2 r2 hx
  | bad => exact h
theorem soE {f : FE} {g : D → S → O} {N : V → Hp → Prop} (r : Rel K c G H σ s) (h : PostO K ex W c G En ((f s).stm g))
    (next : ∀ d s' G' H' v, Same G G' → Rel K c G' H' σ s' → Dp K G' v d → PostO K ex W c G' En (g d s') → N v H') : tE K ex W f σ H N :=
  ⟨c, G, s, r, h.fromR fun a s' G' H' e r' q v hv => next a s' G' H' v e r' hv q⟩
theorem soA {f : FA} {g : List D → S → O} {N : List V → Hp → Prop} (r : Rel K c G H σ s) (h : PostO K ex W c G En ((f s).stm g))
    (next : ∀ ds s' G' H' vs, Same G G' → Rel K c G' H' σ s' → DpAll K G' vs ds → PostO K ex W c G' En (g ds s') → N vs H') : tA K ex W f σ H N :=
  ⟨c, G, s, r, h.fromR fun a s' G' H' e r' q v hv => next a s' G' H' v e r' hv q⟩
theorem soT {f : FT} {g : Bool → S → O} {N : Bool → Hp → Prop} (r : Rel K c G H σ s) (h : PostO K ex W c G En ((f s).stm g))
    (next : ∀ b s' G' H', Same G G' → Rel K c G' H' σ s' → PostO K ex W c G' En (g b s') → N b H') : tT K ex W f σ H N :=
  ⟨c, G, s, r, h.fromR fun a s' G' H' e r' q => next a s' G' H' e r' q⟩
end

/-! ### blocks, if, return -/
def sNil : FO := fun s => .nx s
def sSeq (f g : FO) : FO := fun s => (f s).seq g
def sPass : FO := fun s => .nx s
def sBrk : FO := fun s => .bk s
def sCnt : FO := fun s => .ct s
def sRet (f : FE) : FO := fun s => (f s).stm fun d s => .rt d s
def sRetN : FO := fun s => .rt .none s
def sIf (c : FT) (f g : FO) : FO := fun s => (c s).stm fun b s => if b = true then f s else g s
def sAsg (f : FE) (tg : D → S → Option S) : FO := fun s => (f s).stm fun d s => match tg d s with
  | some s => .nx s
  | none => .bad
def sDrp (f : FE) : FO := fun s => (f s).stm fun _ s => .nx s
section
variable {X : Cx} {ex : ExT} {W : WX} {st : Stmt} {rest : List Stmt} {f g : FO} {e : Expr} {pos : Pos}
theorem bNil : PSs X [] (tS X.K ex W sNil) := PSs.imp pss_nil fun En σ H ⟨_, G, _, r, h⟩ => h σ G H (Same.refl _) r
theorem bCons (hf : PS X st (tS X.K ex W f)) (hg : PSs X rest (tS X.K ex W g)) : PSs X (st :: rest) (tS X.K ex W (sSeq f g)) :=
  PSs.imp (pss_cons hf hg) fun En σ H ⟨c, G, s, r, h⟩ => by
    refine ⟨c, G, s, r, ?_⟩
    have h : PostO X.K ex W c G En ((f s).seq g) := h
    cases q : f s with
    | nx s' =>
      rw [q] at h
      exact fun σ' G' H' e r' => ⟨c, G', s', r', PostO.up h e⟩
    | rt d s' => rw [q] at h; exact h
    | bk s' => rw [q] at h; exact h
    | ct s' => rw [q] at h; exact h
    | exc k as s' => rw [q] at h; exact h
    | bad => rw [q] at h; exact h
theorem bOne (hf : PS X st (tS X.K ex W f)) : PSs X [st] (tS X.K ex W f) := pss_one hf
theorem kPass : PS X (.Pass pos) (tS X.K ex W sPass) := PS.imp ps_pass fun En σ H ⟨_, G, _, r, h⟩ => h σ G H (Same.refl _) r
theorem kBrk : PS X (.Break pos) (tS X.K ex W sBrk) := PS.imp ps_break fun En σ H ⟨_, G, _, r, h⟩ => h σ G H (Same.refl _) r
theorem kCnt : PS X (.Continue pos) (tS X.K ex W sCnt) := PS.imp ps_continue fun En σ H ⟨_, G, _, r, h⟩ => h σ G H (Same.refl _) r
theorem kRet {f : FE} (hf : PE X e (tE X.K ex W f)) : PS X (.Return (some e) pos) (tS X.K ex W (sRet f)) :=
  PS.imp (ps_ret hf) fun En σ H ⟨_, _, _, r, h⟩ => soE r h fun d s1 G1 H1 v e1 r1 hv h1 => h1 v σ G1 H1 (Same.refl _) r1 hv
theorem kRetN : PS X (.Return none pos) (tS X.K ex W sRetN) := PS.imp ps_retN fun En σ H ⟨_, G, _, r, h⟩ => h .non σ G H (Same.refl _) r .non
theorem kIf {t : Expr} {a b : List Stmt} {c : FT} (hc : PT X t (tT X.K ex W c)) (hf : PSs X a (tS X.K ex W f)) (hg : PSs X b (tS X.K ex W g)) : PS X (.If t a b pos) (tS X.K ex W (sIf c f g)) :=
  PS.imp (ps_if hc hf hg) fun En σ H ⟨_, _, _, r, h⟩ => soT r h fun k s1 G1 H1 e1 r1 h1 => by
    cases k with
    | true => exact ⟨_, _, _, r1, h1⟩
    | false => exact ⟨_, _, _, r1, h1⟩
theorem kDrp {f : FE} (hf : PE X e (tE X.K ex W f)) (hs : swapsWith e none pos.line X.env = pure false := by rfl) : PS X (.Expr e pos) (tS X.K ex W (sDrp f)) :=
  PS.imp (ps_expr hf hs) fun En σ H ⟨_, _, _, r, h⟩ => soE r h fun d s1 G1 H1 v e1 r1 hv h1 => h1 σ G1 H1 (Same.refl _) r1

/-! ### targets -/
abbrev FG := D → S → Option S
/-- the slots beside l stay -/
def Keeps (l : List Nat) (σ σ' : St) : Prop := σ'.length = σ.length ∧ ∀ (j : Nat), j ∉ l → σ'[j]? = σ[j]?
theorem Keeps.refl {l : List Nat} {σ : St} : Keeps l σ σ := ⟨rfl, fun _ _ => rfl⟩
theorem Keeps.set {i : Nat} {σ : St} {v : Option V} : Keeps [i] σ (σ.set i v) := ⟨List.length_set, fun j hj => by
  rw [List.getElem?_set_ne (fun e => hj (by simp [e]))]⟩
theorem Keeps.trans {l m : List Nat} {σ σ' σ'' : St} (a : Keeps l σ σ') (b : Keeps m σ' σ'') : Keeps (l ++ m) σ σ'' :=
  ⟨b.1.trans a.1, fun j hj => (b.2 j fun z => hj (List.mem_append_right _ z)).trans (a.2 j fun z => hj (List.mem_append_left _ z))⟩
def tG (K : PySem.W.Frag) (l : List Nat) (tg : FG) : TG := fun v σ H Q => ∃ c G s d s', Rel K c G H σ s ∧ Dp K G v d ∧ tg d s = some s' ∧ ∀ σ', Keeps l σ σ' → Rel K c G H σ' s' → Q σ' H
abbrev FGs := List D → S → Option S
def tGs (K : PySem.W.Frag) (l : List Nat) (tg : FGs) : TGs := fun vs σ H Q => ∃ c G s ds s', Rel K c G H σ s ∧ DpAll K G vs ds ∧ tg ds s = some s' ∧ ∀ σ', Keeps l σ σ' → Rel K c G H σ' s' → Q σ' H
def gNm (i : Nat) : FG := fun d s => some (s.put i (.val d))
def gNo : FGs := fun ds s => match ds with
  | [] => some s
  | _ => none
def gCo (g : FG) (h : FGs) : FGs := fun ds s => match ds with
  | d :: r => (g d s).bind (h r)
  | [] => none
def gTp (n : Nat) (h : FGs) : FG := fun d s => match d with
  | .tuple ds => if ds.length = n then h ds s else none
  | _ => none
theorem gName_ {i : Nat} {x : Str} (hN : X.N.Nodup) (hi : X.N[i]? = some x := by rfl) (hx : Loc X.env.scope x := by first | exact Or.inl rfl | exact Or.inr rfl) (hf : X.fn x = true ∨ X.env.scope.names.lookup x = some .local := by first | exact .inl rfl | exact .inr rfl) :
    PG X (.Name x pos) (tG X.K [i] (gNm i)) := PG.imp (pg_name hN hi hx hf) fun v σ H Q ⟨c, G, s, d, s', r, hv, e, q⟩ => by
  cases e
  exact q _ Keeps.set (r.put i hv fun z => nomatch z)
theorem gsNil : PGs X [] (tGs X.K [] gNo) := ⟨fun pins s σ H vs us Q I rv h => pgs_nil.run pins s σ H vs us Q I rv (by
  obtain ⟨c, G, s, ds, s', r, hv, e, q⟩ := h
  cases ds with
  | nil =>
    cases hv
    cases e
    exact ⟨rfl, q _ Keeps.refl r⟩
  | cons _ _ => cases e)⟩
theorem gsCons {t : Expr} {ts : List Expr} {l m : List Nat} {gf : FG} {hf : FGs} (h1 : PG X t (tG X.K l gf)) (h2 : PGs X ts (tGs X.K m hf))
    (hs : (assignEach (t :: ts) X.env).map (·.2) = assign t X.env :: (assignEach ts X.env).map (·.2) := by rfl) : PGs X (t :: ts) (tGs X.K (l ++ m) (gCo gf hf)) :=
  ⟨fun pins s σ H vs us Q I rv h => (pgs_cons h1 h2 hs).run pins s σ H vs us Q I rv (by
    obtain ⟨c, G, s, ds, s', r, hv, e, q⟩ := h
    cases ds with
    | nil => cases e
    | cons d ds =>
      cases hv with
      | cons a b =>
        have e : (gf d s).bind (hf ds) = some s' := e
        cases z : gf d s with
        | none => rw [z] at e; cases e
        | some s1 =>
          rw [z] at e
          exact ⟨_, _, rfl, c, G, s, d, s1, r, a, z, fun σ1 k1 r1 => ⟨c, G, s1, ds, s', r1, b, e, fun σ2 k2 r2 => q σ2 (k1.trans k2) r2⟩⟩)⟩
theorem gTup {es : List Expr} {k : Nat} {l : List Nat} {hf : FGs} {n : Nat} (hc : X.calm = true) (h : PGs X es (tGs X.K l hf)) (hn : (assignEach es X.env).length = n := by rfl) (hst : (assignEach es X.env).findIdx? (·.1) = none := by rfl) :
    PG X (.Tuple es k pos) (tG X.K l (gTp n hf)) := PG.imp (pg_tup hc h hn hst) fun v σ H Q ⟨c, G, s, d, s', r, hv, e, q⟩ => by
  unfold gTp at e
  cases d with
  | tuple ds =>
    cases hv with
    | tup q1 q2 =>
      by_cases hl : ds.length = n
      · have e : (if ds.length = n then hf ds s else none) = some s' := e
        rw [if_pos hl] at e
        exact ⟨_, _, rfl, sqT_mono r.b.sub q1, by rw [q2.len]; exact hl, c, G, s, ds, s', r, q2, e, q⟩
      · have e : (if ds.length = n then hf ds s else none) = some s' := e
        rw [if_neg hl] at e
        cases e
  | _ => cases e
/-- target = e -/
theorem kAsg {t e : Expr} {f : FE} {l : List Nat} {gf : FG} (he : PE X e (tE X.K ex W f)) (hg : PG X t (tG X.K l gf)) (hs : swapsWithSole [t] e pos.line X.env = pure false := by rfl) (hw : swappedStores [t] e X.env = pure none := by rfl)
    (h1 : (assignEach [t] X.env).map (·.2) = [assign t X.env] := by rfl) : PS X (.Assign [t] e pos) (tS X.K ex W (sAsg f gf)) :=
  PS.imp (ps_asg he hg hs hw h1) fun En σ H ⟨c, _, _, r, h⟩ => soE r h fun d s1 G1 H1 v e1 r1 hv h1 => by
    cases z : gf d s1 with
    | none =>
      simp only [z] at h1
      exact h1.elim
    | some s2 =>
      simp only [z] at h1
      exact ⟨c, G1, s1, d, s2, r1, hv, z, fun σ' _ r' => h1 σ' G1 H1 (Same.refl _) r'⟩
/-- name = e -/
theorem kSet {i : Nat} {x : Str} {e : Expr} {f : FE} {pos' : Pos} (hN : X.N.Nodup) (he : PE X e (tE X.K ex W f)) (hi : X.N[i]? = some x := by rfl) (hx : Loc X.env.scope x := by first | exact Or.inl rfl | exact Or.inr rfl)
    (hs : swapsWith e (some (.Name x pos')) pos.line X.env = pure false := by rfl) (hf : X.fn x = true ∨ X.env.scope.names.lookup x = some .local := by first | exact .inl rfl | exact .inr rfl) :
    PS X (.Assign [.Name x pos'] e pos) (tS X.K ex W (sAsg f (gNm i))) :=
  PS.imp (ps_set hN hi hx he hs hf) fun En σ H ⟨c, _, _, r, h⟩ => soE r h fun d s1 G1 H1 v e1 r1 hv h1 => h1 _ G1 H1 (Same.refl _) (r1.put i hv fun z => nomatch z)
/-- name op= e, the name's value data -/
def sAug (i : Nat) (o : D → D → Option D) (f : FE) : FO := fun s => (rdSlot s i).stm fun d s => (f s).stm fun d' s => (R.of (o d d') s).stm fun z s => .nx (s.put i (.val z))
theorem kAug {i : Nat} {x : Str} {e : Expr} {f : FE} {pos' : Pos} {op : Operator} {r : R2} {o : D → D → Option D} (ho : OpR X (inplaceOp op) r) (hd : OpD X.K r o) (hN : X.N.Nodup) (he : PE X e (tE X.K ex W f)) (hi : X.N[i]? = some x := by rfl)
    (hx : Loc X.env.scope x := by first | exact Or.inl rfl | exact Or.inr rfl) (hf : X.fn x = true ∨ X.env.scope.names.lookup x = some .local := by first | exact .inl rfl | exact .inr rfl) :
    PS X (.AugAssign (.Name x pos') op e pos) (tS X.K ex W (sAug i o f)) :=
  PS.imp (ps_aug hN hi hx he (ti := r) (fun pins s σ H x y v u Q I rx ry q => ho pins s σ H x y v u Q I rx ry q) hf) fun En σ H ⟨c, G, s, rl, h⟩ => by
    have h : PostO X.K ex W c G En ((rdSlot s i).stm fun d s => (f s).stm fun d' s => (R.of (o d d') s).stm fun z s => .nx (s.put i (.val z))) := h
    have key : ∀ {v : V} {d : D} {G0 : Hp} {s0 : S}, Rel X.K c G0 H σ s0 → Dp X.K G0 v d → PostO X.K ex W c G0 En ((f s0).stm fun d' s => (R.of (o d d') s).stm fun z s => .nx (s.put i (.val z))) →
        tE X.K ex W f σ H fun y H1 => r v y H1 fun z H2 => En.nx (σ.set i (some z)) H2 := fun {v d G0 s0} r0 hv h0 =>
      soE r0 h0 fun d' s1 G1 H1 v' e1 r1 hv' h1 => by
        cases z : o d d' with
        | none =>
          rw [z] at h1
          exact h1.elim
        | some y =>
          rw [z] at h1
          exact hd c G1 H1 σ s1 v v' d d' y _ r1 (hv.up e1) hv' z fun w G2 H2 e2 r2 hw => h1 _ G2 H2 e2 (r2.put i hw fun z => nomatch z)
    unfold rdSlot at h
    split at h
    · rename_i d hd
      obtain ⟨v, hv, he⟩ := rl.slot i _ hd
      exact ⟨v, hv, key rl he h⟩
    · rename_i ds hd
      obtain ⟨v, G', e, hv, hl, r'⟩ := rl.freeze hd
      exact ⟨v, hv, key r' hl (h.up e)⟩
    · rename_i ds hd
      obtain ⟨v, G', e, hv, hl, r'⟩ := rl.freezeD hd
      exact ⟨v, hv, key r' hl (h.up e)⟩
    · exact h.elim

/-! ### loops -/
/-- slots forgotten -/
def kill (l : List Nat) (s : S) : S := l.foldl (fun s i => s.drop i) s
theorem Rel.kill {K : PySem.W.Frag} {c : Act} {G H : Hp} {σ : St} : ∀ (l : List Nat) {s : S}, Rel K c G H σ s → Rel K c G H σ (kill l s)
  | [], _, r => r
  | i :: l, s, r => Rel.kill l (s := s.drop i) (r.forget i)
def forD (kl : List Nat) (tg : FG) (body : FO) : List D → S → O
  | [], s => .nx s
  | d :: ds, s => match tg d s with
    | none => .bad
    | some s1 => match body s1 with
      | .nx s2 => forD kl tg body ds (kill kl s2)
      | .ct s2 => forD kl tg body ds (kill kl s2)
      | .bk s2 => .nx (kill kl s2)
      | o => o
def sFor (kl : List Nat) (fi : FA) (tg : FG) (body : FO) : FO := fun s => (fi s).stm fun ds s => forD kl tg body ds s
/-- what is walked gives these data -/
def WkD (K : PySem.W.Frag) (G0 : Hp) (J : It) (ds : List D) : Prop :=
  Walk J ds.length (fun H => ∃ G, Same G0 G ∧ Same G H) fun i H v H' => ∀ (c : Act) (G : Hp) (σ : St) (s : S), Same G0 G → Rel K c G H σ s →
    ∃ G2 d, Same G G2 ∧ Rel K c G2 H' σ s ∧ ds[i]? = some d ∧ Dp K G2 v d
def tI (K : PySem.W.Frag) (ex : ExT) (W : WX) (fi : FA) : TI := fun σ H R => ∃ c G s, Rel K c G H σ s ∧ Post K ex W c G σ (fun ds G' H' _ => ∀ J, WkD K G' J ds → R J H') (fi s)
theorem forD_drop {kl : List Nat} {tg : FG} {body : FO} {ds : List D} {i : Nat} {d : D} (h : ds[i]? = some d) (s : S) : forD kl tg body (ds.drop i) s = forD kl tg body (d :: ds.drop (i + 1)) s := by
  obtain ⟨hi, e⟩ := List.getElem?_eq_some_iff.mp h
  rw [List.drop_eq_getElem_cons hi, e]
theorem kFor {t it : Expr} {body : List Stmt} {kl l : List Nat} {fi : FA} {tg : FG} {fb : FO} (hp : PassesOwn (model X.prog X.w) X.A X.env X.xe) (hc : X.calm = true) (hi : PI X t it (tI X.K ex W fi)) (hg : PG X t (tG X.K l tg)) (hb : PSs X body (tS X.K ex W fb))
    (hs : ∀ x, foldedSetIterable it X.env x = pure x := by intro _; rfl) : PS X (.For t it body [] pos) (tS X.K ex W (sFor kl fi tg fb)) :=
  PS.imp (ps_for hp hc hi hg hb hs) fun En σ H ⟨c, G, s, r, h⟩ => by
    refine ⟨c, G, s, r, PostO.fromR h fun ds s1 G1 H1 e1 r1 h1 J wk => ?_⟩
    refine for_it wk (fun i σ' H' => ∃ G' s', Same G1 G' ∧ Rel X.K c G' H' σ' s' ∧ PostO X.K ex W c G' En (forD kl tg fb (ds.drop i) s')) ⟨G1, s1, Same.refl _, r1, h1⟩ (fun i σ' H' hi ⟨G', s', e, r', _⟩ => ⟨G', e, r'.b.sub⟩) (fun i x σ' H' H2 hi ⟨G', s', e, r', h'⟩ y => ?_) (fun σ' H' ⟨G', s', e, r', h'⟩ => ?_)
    · obtain ⟨G2, d, e2, r2, hd, hx⟩ := y c G' σ' s' e r'
      rw [forD_drop hd] at h'
      unfold forD at h'
      cases z : tg d s' with
      | none =>
        simp only [z] at h'
        exact h'.elim
      | some s2 =>
        simp only [z] at h'
        refine ⟨c, G2, s', d, s2, r2, hx, z, fun σ3 _ r3 => ⟨c, G2, s2, r3, ?_⟩⟩
        cases q : fb s2 with
        | nx s3 =>
          simp only [q] at h'
          exact fun σ4 G4 H4 e4 r4 => ⟨G4, _, (e.trans e2).trans e4, r4.kill kl, h'.up (e2.trans e4)⟩
        | ct s3 =>
          simp only [q] at h'
          exact fun σ4 G4 H4 e4 r4 => ⟨G4, _, (e.trans e2).trans e4, r4.kill kl, h'.up (e2.trans e4)⟩
        | bk s3 =>
          simp only [q] at h'
          exact fun σ4 G4 H4 e4 r4 => h' σ4 G4 H4 (e2.trans e4) (r4.kill kl)
        | rt d s3 =>
          simp only [q] at h'
          exact h'.up e2
        | exc k as s3 =>
          simp only [q] at h'
          exact h'.up e2
        | bad =>
          simp only [q] at h'
          exact h'.elim
    · rw [List.drop_length] at h'
      exact h' σ' G' H' (Same.refl _) r'
/-- at most n turns -/
def whD (kl : List Nat) (c : FT) (body : FO) : Nat → S → O
  | 0, _ => .bad
  | n + 1, s => (c s).stm fun b s1 => if b = true then
      match body s1 with
      | .nx s2 => whD kl c body n (kill kl s2)
      | .ct s2 => whD kl c body n (kill kl s2)
      | .bk s2 => .nx (kill kl s2)
      | o => o
    else .nx s1
def sWhile (n : Nat) (kl : List Nat) (c : FT) (body : FO) : FO := fun s => whD kl c body n s
theorem kWhile {t : Expr} {body : List Stmt} {n : Nat} {kl : List Nat} {fc : FT} {fb : FO} (hp : PassesOwn (model X.prog X.w) X.A X.env X.xe) (hc : PT X t (tT X.K ex W fc)) (hb : PSs X body (tS X.K ex W fb)) : PS X (.While t body [] pos) (tS X.K ex W (sWhile n kl fc fb)) :=
  PS.imp (ps_while hp hc hb) fun En σ H ⟨c, G, s, r, h⟩ => by
    refine ⟨fun m σ' H' => ∃ G' s', Rel X.K c G' H' σ' s' ∧ Same G G' ∧ PostO X.K ex W c G' En (whD kl fc fb m s'), ⟨n, G, s, r, Same.refl _, h⟩, fun m σ' H' ⟨G', s', r', e', h'⟩ => ?_⟩
    cases m with
    | zero => exact h'.elim
    | succ m =>
      unfold whD at h'
      refine soT r' h' fun b s1 G1 H1 e1 r1 h1 => ?_
      cases b with
      | false => exact h1 σ' G1 H1 (Same.refl _) r1
      | true =>
        refine ⟨fun σ2 H2 => ∃ G2 s2, Rel X.K c G2 H2 σ2 s2 ∧ Same G G2 ∧ PostO X.K ex W c G2 En (whD kl fc fb m s2), fun σ2 H2 q => ⟨m, Nat.lt_succ_self m, q⟩, c, G1, s1, r1, ?_⟩
        simp only [if_true] at h1
        cases q : fb s1 with
        | nx s3 =>
          simp only [q] at h1
          exact fun σ4 G4 H4 e4 r4 => ⟨G4, _, r4.kill kl, (e'.trans e1).trans e4, h1.up e4⟩
        | ct s3 =>
          simp only [q] at h1
          exact fun σ4 G4 H4 e4 r4 => ⟨G4, _, r4.kill kl, (e'.trans e1).trans e4, h1.up e4⟩
        | bk s3 =>
          simp only [q] at h1
          exact fun σ4 G4 H4 e4 r4 => h1 σ4 G4 H4 e4 (r4.kill kl)
        | rt d s3 =>
          simp only [q] at h1
          exact h1
        | exc k as s3 =>
          simp only [q] at h1
          exact h1
        | bad =>
          simp only [q] at h1
          exact h1.elim
end
end PD
/-! PD5: what is walked; lists of one's own; comprehensions; subscripts; built-in calls. -/
namespace PD
open PySem PySem.Spec L2
open PyProof.Rows hiding St

/-! ### what is walked -/
def iSeq (K : PySem.W.Frag) (tl : TE) : TI := fun σ H R => tl σ H fun x H1 => ∃ a, x = .ref a ∧ (((∃ xs, SqL K H1 a xs) ∧ R (Itl K a) H1) ∨ ((∃ xs, SqT K H1 a xs) ∧ R (Itt K a) H1))
section
variable {X : Cx} {ex : ExT} {W : WX} {tg : Expr}
theorem pi_seq {l : Expr} {tl : TE} (hl : PE X l tl) : PI X tg l (iSeq X.K tl) := by
  refine ⟨fun pins s σ H R I h => ?_⟩
  refine thn (hl.run pins s σ H _ I h) fun v s1 ⟨x, H1, I1, r1, q1⟩ => ?_
  obtain ⟨a, e, q⟩ := q1
  subst e
  cases r1
  have fin : ∀ b ∈ [s1.heap.objs.size], FpOk X pins H1 b := fun b hb => by
    have e : b = s1.heap.objs.size := by simpa using hb
    subst e
    exact I1.fpOk (Nat.le_refl _) (I1.hok.fresh (Nat.le_refl _))
  rcases q with ⟨⟨xs, hq⟩, q⟩ | ⟨⟨xs, hq⟩, q⟩
  · obtain ⟨its, rv, p, hz⟩ := I1.list hq
    refine wpAny_pyIter_list p.isList ?_
    exact ⟨s1.heap.objs.size, [s1.heap.objs.size], _, _, H1, rfl, I1.kept (t' := s1.toks) fun b o e => Heap.get?_push_of_some _ e, turn_list a _, ⟨_, Heap.get?_push_size _ rfl, rfl, rfl⟩, fin, q⟩
  · obtain ⟨its, rv, p, hz⟩ := I1.tuple hq
    refine wpAny_pyIter_tuple (show s1.heap.IsTuple a its.toArray from p) ?_
    exact ⟨s1.heap.objs.size, [s1.heap.objs.size], _, _, H1, rfl, I1.kept (t' := s1.toks) fun b o e => Heap.get?_push_of_some _ e, turn_tuple a _, ⟨_, Heap.get?_push_size _ rfl, rfl, rfl⟩, fin, q⟩
theorem wkList {K : PySem.W.Frag} {G : Hp} {a : Addr} {xs : List V} {ds : List D} (h : SqL K G a xs) (hd : DpAll K G xs ds) : WkD K G (Itl K a) ds := by
  have w : Walk (Itl K a) xs.length (fun H => SqL K H a xs) (YAt xs) := walk_list
  rw [hd.len] at w
  refine Walk.mono w (fun H ⟨G', e, e'⟩ => (e.trans e').seq h) fun i H x H' hi _ ⟨e, hx⟩ c G' σ s eG r => ?_
  subst e
  obtain ⟨d, h1, h2⟩ := hd.getV hx
  exact ⟨G', d, Same.refl _, r, h1, h2.up eG⟩
theorem wkTup {K : PySem.W.Frag} {G : Hp} {a : Addr} {xs : List V} {ds : List D} (h : SqT K G a xs) (hd : DpAll K G xs ds) : WkD K G (Itt K a) ds := by
  have w : Walk (Itt K a) xs.length (fun H => SqT K H a xs) (YAt xs) := walk_tup
  rw [hd.len] at w
  refine Walk.mono w (fun H ⟨G', e, e'⟩ => sqT_mono (e.trans e') h) fun i H x H' hi _ ⟨e, hx⟩ c G' σ s eG r => ?_
  subst e
  obtain ⟨d, h1, h2⟩ := hd.getV hx
  exact ⟨G', d, Same.refl _, r, h1, h2.up eG⟩
def items : D → Option (List D)
  | .list ds => some ds
  | .tuple ds => some ds
  | _ => none
/-- a list or a tuple, walked -/
def fIt (f : FE) : FA := fun s => (f s).bind fun d s => R.of (items d) s
theorem iIt {e : Expr} {f : FE} (h : PE X e (tE X.K ex W f)) : PI X tg e (tI X.K ex W (fIt f)) := PI.imp (pi_seq h) fun σ H Rr ⟨_, _, _, r, q⟩ =>
  inE r q fun d s1 G1 H1 v e1 r1 hv q1 => by
    cases d with
    | list ds =>
      cases hv with
      | lst h1 h2 => exact ⟨_, rfl, .inl ⟨⟨_, r1.b.sub.seq h1⟩, q1.val' r1 _ (wkList h1 h2)⟩⟩
    | tuple ds =>
      cases hv with
      | tup h1 h2 => exact ⟨_, rfl, .inr ⟨⟨_, sqT_mono r1.b.sub h1⟩, q1.val' r1 _ (wkTup h1 h2)⟩⟩
    | _ => exact q1.elim
def upTo (lo : Int) (n : Nat) : List D := (List.range n).map fun (i : Nat) => PyData.int (lo + i)
theorem wkRange {K : PySem.W.Frag} {G : Hp} {lo : Int} {n : Nat} : WkD K G (Itr lo n) (upTo lo n) := by
  have w : Walk (Itr lo n) n (fun _ => True) (YFn fun i => .int (lo + i)) := walk_range
  have hl : (upTo lo n).length = n := by simp [upTo]
  unfold WkD
  rw [hl]
  refine Walk.mono w (fun _ _ => trivial) fun i H x H' hi _ ⟨e, hx⟩ c G' σ s eG r => ?_
  subst e
  subst hx
  exact ⟨G', .int (lo + i), Same.refl _, r, by simp [upTo, hi], .int _⟩
def rng1 (d : D) : Option (List D) := match d with
  | .int j => if -(2 ^ 62) ≤ j ∧ j < 2 ^ 62 then some (upTo 0 j.toNat) else none
  | _ => none
def rng2 (d e : D) : Option (List D) := match d, e with
  | .int i, .int j => if -(2 ^ 62) ≤ i ∧ i < 2 ^ 62 ∧ -(2 ^ 62) ≤ j ∧ j < 2 ^ 62 then some (upTo i (j - i).toNat) else none
  | _, _ => none
def fR1 (f : FA) : FA := fun s => (f s).bind fun ds s => match ds with
  | [d] => R.of (rng1 d) s
  | _ => .bad
def fR2 (f : FA) : FA := fun s => (f s).bind fun ds s => match ds with
  | [d, e] => R.of (rng2 d e) s
  | _ => .bad
theorem iR1 {a : Expr} {f : FA} {p pos : Pos} (hm : X.mg "range" = none) (ha : PA X [a] (tA X.K ex W f)) (hg : Gl X "range" := by rfl) (hs : starEach [a] X.env = [(false, eval a X.env)] := by rfl) : PI X tg (.Call (.Name "range" p) [a] [] pos) (tI X.K ex W (fR1 f)) :=
  PI.imp (pi_range1 hg hm ha hs) fun σ H Rr ⟨_, _, _, r, q⟩ => inA r q fun ds s1 G1 H1 vs e1 r1 hv q1 => by
    match ds, hv, q1 with
    | [d], .cons h1 .nil, q1 =>
      cases d with
      | int j =>
        cases h1
        by_cases hj : -(2 ^ 62) ≤ j ∧ j < 2 ^ 62
        · have q1 : Post X.K ex W _ G1 σ _ (R.of (rng1 (.int j)) s1) := q1
          unfold rng1 at q1
          simp only [hj, and_self, if_true] at q1
          exact ⟨j, rfl, hj.1, hj.2, q1.val' r1 _ wkRange⟩
        · have q1 : Post X.K ex W _ G1 σ _ (R.of (rng1 (.int j)) s1) := q1
          unfold rng1 at q1
          simp only [hj, if_false] at q1
          exact q1.elim
      | _ => exact q1.elim
theorem iR2 {a b : Expr} {f : FA} {p pos : Pos} (hm : X.mg "range" = none) (ha : PA X [a, b] (tA X.K ex W f)) (hg : Gl X "range" := by rfl) (hs : starEach [a, b] X.env = [(false, eval a X.env), (false, eval b X.env)] := by rfl)
    (hs2 : starEach [b] X.env = [(false, eval b X.env)] := by rfl) : PI X tg (.Call (.Name "range" p) [a, b] [] pos) (tI X.K ex W (fR2 f)) :=
  PI.imp (pi_range2 hg hm ha hs hs2) fun σ H Rr ⟨_, _, _, r, q⟩ => inA r q fun ds s1 G1 H1 vs e1 r1 hv q1 => by
    match ds, hv, q1 with
    | [d, e], .cons h1 (.cons h2 .nil), q1 =>
      have q1 : Post X.K ex W _ G1 σ _ (R.of (rng2 d e) s1) := q1
      cases d with
      | int i =>
        cases e with
        | int j =>
          cases h1
          cases h2
          unfold rng2 at q1
          by_cases hj : -(2 ^ 62) ≤ i ∧ i < 2 ^ 62 ∧ -(2 ^ 62) ≤ j ∧ j < 2 ^ 62
          · simp only [hj, and_self, if_true] at q1
            exact ⟨i, j, rfl, hj, q1.val' r1 _ wkRange⟩
          · simp only [hj, if_false] at q1
            exact q1.elim
        | _ => exact q1.elim
      | _ => exact q1.elim

/-! ### a new list, nobody's yet -/
def Fresh (K : PySem.W.Frag) (c : Act) (G H : Hp) (σ : St) (s : S) (v : V) (ds : List D) : Prop :=
  EntOk K c G H v (.own ds) ∧ ∀ (j : Nat), ObAt s j → σ[j]? ≠ some (some v)
def tO (K : PySem.W.Frag) (ex : ExT) (W : WX) (f : FA) : TE := fun σ H Q => ∃ c G s, Rel K c G H σ s ∧ Post K ex W c G σ (fun ds G' H' s' => ∀ v, Fresh K c G' H' σ s' v ds → Q v H') (f s)
section
variable {K : PySem.W.Frag} {c : Act} {G H : Hp} {σ : St} {s : S}
theorem Rel.notOb {p : Addr} (r : Rel K c G H σ s) (hp : H p = none) (j : Nat) (hj : ObAt s j) : σ[j]? ≠ some (some (.ref p)) := fun z => by
  obtain ⟨e, q, b⟩ := hj
  obtain ⟨v, hv, he⟩ := r.slot j e q
  obtain ⟨o, p', ho, e', _, _, _, h4, _⟩ := he.ob b
  rw [hv] at z
  have z : v = .ref p := by simpa using z
  rw [e'] at z
  cases z
  rw [hp] at h4
  cases h4
theorem Rel.newOwn {p : Addr} {vs : List V} {ds : List D} (r : Rel K c G H σ s) (hp : H p = none) (hd : DpAll K G vs ds) :
    Rel K c G (upd H p (.lst vs)) σ s ∧ Fresh K c G (upd H p (.lst vs)) σ s (.ref p) ds := by
  obtain ⟨hG, hw, h0, g0⟩ := r.b.free hp
  refine ⟨r.allocOwn hp, ⟨p, .lst vs, rfl, hG, h0, hw, upd_same, vs, rfl, hd⟩, fun j hj z => r.notOb hp j hj z⟩
theorem Rel.freezeBeside {p : Addr} {ho : HO} (r : Rel K c G H σ s) (hs : ∀ (j : Nat), ObAt s j → σ[j]? ≠ some (some (.ref p))) (hG : G p = none) (h0 : c.H0 p = none) (hw : p ≠ c.wa) (hH : H p = some ho) (pl : plain ho = true) : Same G (upd G p ho) ∧ Rel K c (upd G p ho) H σ s := by
  have sm : Same G (upd G p ho) := same_upd hG
  have g0 : c.G0 p = none := r.b.g0.free hG
  refine ⟨sm, ⟨fun a u e => ?_, r.b.wl, ?_, sm.seq r.b.scr, r.b.g0.trans sm, r.b.h0, fun a u e mu n => ?_, fun q hq => let ⟨t, g, h⟩ := r.b.tb q hq; ⟨t, (upd_ne (TabS.ne t hH pl)).trans g, h⟩, fun a ps z => by
    by_cases h : a = p
    · rw [h, upd_same] at z
      cases z
      cases pl
    · rw [upd_ne h] at z
      exact r.b.ng a ps z⟩, r.len, fun j e q => ?_, r.sep⟩
  · by_cases ha : a = p
    · subst ha
      rw [upd_same] at e
      cases e
      exact hH
    · rw [upd_ne ha] at e
      exact r.b.sub a u e
  · rw [upd_ne (Ne.symm hw)]
    exact r.b.wf
  · rw [upd_ne (ne_of_none e h0)]
    exact r.b.n0 a u e mu n
  · obtain ⟨u, hu, he⟩ := r.slot j e q
    refine ⟨u, hu, ?_⟩
    have gen : ∀ o, isOb e = true → Ob K c G H u o → Ob K c (upd G p ho) H u o := fun o b ⟨p', vs', e', k1, k2, k3, k4, k5⟩ => by
      have hp : p' ≠ p := fun z => by
        rw [e', z] at hu
        exact hs j ⟨e, q, b⟩ hu
      refine ⟨p', vs', e', ?_, k2, k3, k4, k5.up sm⟩
      rw [upd_ne hp]
      exact k1
    cases e with
    | val d => exact Dp.up he sm
    | hdl => exact he
    | tab _ _ => exact he
    | own _ => exact gen _ rfl he
    | dic _ => exact gen _ rfl he
    | ins _ _ _ => exact ⟨gen _ rfl he.1, he.2⟩
/-- frozen at once -/
theorem Rel.freezeNew {v : V} {ds : List D} (r : Rel K c G H σ s) (h : Fresh K c G H σ s v ds) : ∃ G', Same G G' ∧ Rel K c G' H σ s ∧ Dp K G' v (.list ds) := by
  obtain ⟨⟨p, ho, rfl, hG, h0, hw, hH, ⟨vs, rfl, hd⟩⟩, hs⟩ := h
  obtain ⟨sm, r1⟩ := r.freezeBeside hs hG h0 hw hH rfl
  exact ⟨_, sm, r1, .lst (SqL.of upd_same) (hd.up sm)⟩
theorem inO {β : Type} {f : FA} {g : List D → S → R β} {M : β → Hp → Hp → S → Prop} {N : V → Hp → Prop} (r : Rel K c G H σ s) (h : Post K ex W c G σ M ((f s).bind g))
    (next : ∀ ds s' G' H' v, Same G G' → Rel K c G' H' σ s' → Fresh K c G' H' σ s' v ds → Post K ex W c G' σ M (g ds s') → N v H') : tO K ex W f σ H N :=
  ⟨c, G, s, r, Post.seq h fun a s' G' H' e r' q v hv => next a s' G' H' v e r' hv q⟩
theorem soO {En : Ends} {f : FA} {g : List D → S → O} {N : V → Hp → Prop} (r : Rel K c G H σ s) (h : PostO K ex W c G En ((f s).stm g))
    (next : ∀ ds s' G' H' v, Same G G' → Rel K c G' H' σ s' → Fresh K c G' H' σ s' v ds → PostO K ex W c G' En (g ds s') → N v H') : tO K ex W f σ H N :=
  ⟨c, G, s, r, h.fromR fun a s' G' H' e r' q v hv => next a s' G' H' v e r' hv q⟩
end
/-- a new list as data -/
def fFz (f : FA) : FE := fun s => (f s).bind fun ds s => .ok (.list ds) s
theorem eFz {e : Expr} {f : FA} (h : PE X e (tO X.K ex W f)) : PE X e (tE X.K ex W (fFz f)) := PE.imp h fun σ H Q ⟨_, _, _, r, q⟩ =>
  inO r q fun ds s1 G1 H1 v e1 r1 hv q1 => by
    obtain ⟨G2, e2, r2, hd⟩ := r1.freezeNew hv
    exact (q1.up e2).val r2 hd
/-- .. walked -/
def fLim (f : FA) : FA := fun s => (f s).bind fun ds s => if ds.length ≤ sizeLine then .ok ds s else .bad
theorem oLst {es : List Expr} {f : FA} {pos : Pos} (h : PA X es (tA X.K ex W f)) : PE X (.List es pos) (tO X.K ex W (fLim f)) := PE.imp (pe_lst h) fun _ _ _ ⟨_, _, _, r, h⟩ =>
  inA r h fun ds s1 G1 H1 vs e1 r1 hvs h1 => by
    by_cases hl : ds.length ≤ sizeLine
    · rw [if_pos hl] at h1
      refine ⟨by rw [hvs.len]; exact hl, fun p hp => ?_⟩
      obtain ⟨r2, hv⟩ := r1.newOwn hp hvs
      exact h1 G1 _ (Same.refl _) r2 _ hv
    · rw [if_neg hl] at h1
      exact h1.elim
/-- name = a new list -/
def sSetO (i : Nat) (f : FA) : FO := fun s => (f s).stm fun ds s => .nx (s.put i (.own ds))
theorem Fresh.put {K : PySem.W.Frag} {c : Act} {G H : Hp} {σ : St} {s : S} {v : V} {ds : List D} (h : Fresh K c G H σ s v ds) (r : Rel K c G H σ s) (i : Nat) : Rel K c G H (σ.set i (some v)) (s.put i (.own ds)) :=
  r.put i h.1 fun _ j _ hj => h.2 j hj
theorem kSetO {i : Nat} {x : Str} {e : Expr} {f : FA} {pos pos' : Pos} (hN : X.N.Nodup) (he : PE X e (tO X.K ex W f)) (hi : X.N[i]? = some x := by rfl) (hx : Loc X.env.scope x := by first | exact Or.inl rfl | exact Or.inr rfl)
    (hs : swapsWith e (some (.Name x pos')) pos.line X.env = pure false := by rfl) (hf : X.fn x = true ∨ X.env.scope.names.lookup x = some .local := by first | exact .inl rfl | exact .inr rfl) :
    PS X (.Assign [.Name x pos'] e pos) (tS X.K ex W (sSetO i f)) :=
  PS.imp (ps_set hN hi hx he hs hf) fun En σ H ⟨c, _, _, r, h⟩ => soO r h fun ds s1 G1 H1 v e1 r1 hv h1 => h1 _ G1 H1 (Same.refl _) (hv.put r1 i)

/-! ### a slot's list read, changed -/
def look (s : S) (i : Nat) : Option D :=
  match s.ρ[i]? with
  | some (some (.val d)) => some d
  | some (some (.own ds)) => some (.list ds)
  | some (some (.dic es)) => some (dicD es)
  | _ => none
theorem Rel.look {K : PySem.W.Frag} {c : Act} {G H : Hp} {σ : St} {s : S} {i : Nat} {d : D} (r : Rel K c G H σ s) (h : look s i = some d) : ∃ v, σ[i]? = some (some v) ∧ Dp K H v d := by
  unfold PD.look at h
  split at h
  · rename_i d' hd
    obtain ⟨v, hv, he⟩ := r.slot i _ hd
    cases h
    exact ⟨v, hv, Dp.up he r.b.sub⟩
  · rename_i ds hd
    obtain ⟨v, hv, p, ho, rfl, _, _, _, h4, ⟨vs, rfl, h5⟩⟩ := r.slot i _ hd
    cases h
    exact ⟨_, hv, .lst (SqL.of h4) (h5.up r.b.sub)⟩
  · rename_i ds hd
    obtain ⟨v, hv, p, ho, rfl, _, _, _, h4, ⟨vs, rfl, h5⟩⟩ := r.slot i _ hd
    cases h
    exact ⟨_, hv, .dct h4 (h5.up r.b.sub).kvs⟩
  · cases h
def lenD : D → Option Int
  | .list ds => some ds.length
  | .tuple ds => some ds.length
  | .str z => if z.length ≤ sizeLine then some z.length else none
  | _ => none
theorem lenV {K : PySem.W.Frag} {H : Hp} {v : V} {d : D} {n : Int} (hv : Dp K H v d) (h : lenD d = some n) : ∃ m : Nat, LenV K v H m ∧ n = m := by
  cases d with
  | list ds =>
    cases hv with
    | lst h1 h2 =>
      cases h
      exact ⟨_, .inl ⟨_, h1, h2.len.symm⟩, rfl⟩
  | tuple ds =>
    cases hv with
    | tup h1 h2 =>
      cases h
      exact ⟨_, .inr ⟨_, h1, h2.len.symm⟩, rfl⟩
  | str z =>
    cases hv
    by_cases hz : z.length ≤ sizeLine
    · have h : (if z.length ≤ sizeLine then some (z.length : Int) else none) = some n := h
      rw [if_pos hz] at h
      cases h
      exact ⟨_, ⟨hz, rfl⟩, rfl⟩
    · have h : (if z.length ≤ sizeLine then some (z.length : Int) else none) = some n := h
      rw [if_neg hz] at h
      cases h
  | _ => cases h
/-- len(name) -/
def fLenS (i : Nat) : FE := fun s => R.of ((look s i).bind fun d => (lenD d).map PyData.int) s
/-- len(e) -/
def fLen (f : FE) : FE := fun s => (f s).bind fun d s => R.of ((lenD d).map PyData.int) s
theorem eLenS (i : Nat) {x : Str} {p p' pos : Pos} (hm : X.mg "len" = none) (hg : Gl X "len" := by rfl) (hN : X.N[i]? = some x := by rfl) (hv : Vis X.env.scope x := by first | exact Or.inl rfl | exact Or.inr (Or.inl rfl) | exact Or.inr (Or.inr rfl))
    (hd : (x == ("__debug__" : Str)) = false := by decide) (hcd : (x == ("__classdict__" : Str)) = false := by decide) (he : starEach [.Name x p'] X.env = (false, eval (.Name x p') X.env) :: starEach [] X.env := by rfl) (hpl : (backTo pos (starEach [] X.env)).any (·.1) = false := by rfl) :
    PE X (.Call (.Name "len" p) [.Name x p'] [] pos) (tE X.K ex W (fLenS i)) :=
  PE.imp (pe_callB call_len hg hm PySem.boot_len (pa_cons (pe_var hN hv hd hcd) pa_nil he) (he := he) (hpl := hpl)) fun σ H Q ⟨_, _, s, r, h⟩ => by
    have h : Post X.K ex W _ _ σ _ (R.of ((look s i).bind fun d => (lenD d).map PyData.int) s) := h
    cases z : look s i with
    | none =>
      rw [z] at h
      exact h.elim
    | some d =>
      rw [z] at h
      cases z2 : lenD d with
      | none =>
        simp only [Option.bind_some, z2] at h
        exact h.elim
      | some n =>
        simp only [Option.bind_some, z2] at h
        obtain ⟨v, hv, hd⟩ := r.look z
        obtain ⟨m, hm, rfl⟩ := lenV hd z2
        exact ⟨v, hv, v, m, rfl, hm, h.val r (.int _)⟩
theorem eLen {e : Expr} {f : FE} {p pos : Pos} (hm : X.mg "len" = none) (he : PE X e (tE X.K ex W f)) (hg : Gl X "len" := by rfl) (hs : starEach [e] X.env = (false, eval e X.env) :: starEach [] X.env := by rfl) (hpl : (backTo pos (starEach [] X.env)).any (·.1) = false := by rfl) :
    PE X (.Call (.Name "len" p) [e] [] pos) (tE X.K ex W (fLen f)) :=
  PE.imp (pe_callB call_len hg hm PySem.boot_len (pa_cons he pa_nil hs) (he := hs) (hpl := hpl)) fun σ H Q ⟨_, _, _, r, q⟩ => inE r q fun d s1 G1 H1 v e1 r1 hv q1 => by
    cases z2 : lenD d with
    | none =>
      rw [z2] at q1
      exact q1.elim
    | some n =>
      rw [z2] at q1
      obtain ⟨m, hm, rfl⟩ := lenV (hv.up r1.b.sub) z2
      exact ⟨v, m, rfl, hm, q1.val r1 (.int _)⟩
/-- e[i] -/
def dIx (a b : D) : Option D := match a, b with
  | .list xs, .int i => atI xs i
  | .tuple xs, .int i => atI xs i
  | .str z, .int i => if z.length ≤ sizeLine then (atI z.cps.toList i).map fun c => .str ⟨#[c]⟩ else none
  | _, _ => none
theorem atI_map {α β : Type} {xs : List α} {ys : List β} (hl : xs.length = ys.length) {i : Int} {y : β} (h : atI ys i = some y) : ∃ j, ixN xs.length i = some j ∧ ys[j]? = some y := by
  unfold atI at h
  rw [← hl] at h
  cases z : ixN xs.length i with
  | none => rw [z] at h; cases h
  | some j => rw [z] at h; exact ⟨j, rfl, h⟩
theorem od_ix {K : PySem.W.Frag} {c : Act} {G H H2 : Hp} {σ : St} {s : S} {x y : V} {a b d : D} {Q : VK} (r : Rel K c G H σ s) (hx : Dp K H x a) (hG : ∀ ds, (a = .list ds ∨ a = .tuple ds) → ∃ vs, DpAll K G vs ds ∧ ∀ p, x = .ref p → (a = .list ds → SqL K H p vs) ∧ (a = .tuple ds → SqT K H p vs))
    (hy : Dp K G y b) (e : dIx a b = some d) (q : ∀ v, Dp K G v d → Q v H) : rIx K x y H Q := by
  unfold dIx at e
  split at e
  · rename_i xs i
    cases hy
    obtain ⟨vs, hd, hp⟩ := hG xs (.inl rfl)
    cases hx with
    | lst h1 h2 =>
      rename_i p ws
      obtain ⟨j, hj, hj2⟩ := atI_map hd.len e
      obtain ⟨v, hv, hvd⟩ := hd.get hj2
      exact .inl ⟨p, vs, i, v, rfl, rfl, (hp p rfl).1 rfl, by unfold atI; rw [hj]; exact hv, q v hvd⟩
  · rename_i xs i
    cases hy
    obtain ⟨vs, hd, hp⟩ := hG xs (.inr rfl)
    cases hx with
    | tup h1 h2 =>
      rename_i p ws
      obtain ⟨j, hj, hj2⟩ := atI_map hd.len e
      obtain ⟨v, hv, hvd⟩ := hd.get hj2
      exact .inr (.inl ⟨p, vs, i, v, rfl, rfl, (hp p rfl).2 rfl, by unfold atI; rw [hj]; exact hv, q v hvd⟩)
  · rename_i z i
    cases hy
    cases hx
    by_cases hz : z.length ≤ sizeLine
    · rw [if_pos hz] at e
      cases w : atI z.cps.toList i with
      | none => rw [w] at e; cases e
      | some cc =>
        rw [w] at e
        cases e
        exact .inr (.inr ⟨z, i, cc, rfl, rfl, hz, w, q _ (.str _)⟩)
    · rw [if_neg hz] at e
      cases e
  · cases e
def fIx (f g : FE) : FE := fBin dIx f g
/-- name[i] -/
def fIxS (i : Nat) (g : FE) : FE := fun s => match look s i with
  | none => .bad
  | some _ => (g s).bind fun b s => R.of ((look s i).bind fun a => dIx a b) s
theorem eIx {a b : Expr} {f g : FE} {pos : Pos} (hf : PE X a (tE X.K ex W f)) (hg : PE X b (tE X.K ex W g)) (hs : PlainIx b := by exact fun _ _ => rfl) : PE X (.Subscript a b pos) (tE X.K ex W (fIx f g)) :=
  PE.imp (pe_ix ix_seq hf hg hs) fun σ H Q ⟨_, _, _, r, h⟩ => inE r h fun d s1 G1 H1 v e1 r1 hv h1 => inE r1 h1 fun d' s2 G2 H2 v' e2 r2 hv' h2 => by
    cases z : dIx d d' with
    | none =>
      rw [z] at h2
      exact h2.elim
    | some y =>
      rw [z] at h2
      refine od_ix (H2 := H2) r2 ((hv.up e2).up r2.b.sub) (fun ds hd => ?_) hv' z fun w hw => h2.val r2 hw
      rcases hd with rfl | rfl
      · cases hv.up e2 with
        | lst q1 q2 => exact ⟨_, q2, fun p e => ⟨fun _ => (by cases e; exact r2.b.sub.seq q1), fun z => nomatch z⟩⟩
      · cases hv.up e2 with
        | tup q1 q2 => exact ⟨_, q2, fun p e => ⟨(fun z => nomatch z), fun _ => (by cases e; exact sqT_mono r2.b.sub q1)⟩⟩
theorem Rel.look2 {K : PySem.W.Frag} {c : Act} {G H : Hp} {σ : St} {s : S} {i : Nat} {d : D} (r : Rel K c G H σ s) (h : PD.look s i = some d) : ∃ v, σ[i]? = some (some v) ∧ Dp K H v d ∧
    ∀ ds, (d = .list ds ∨ d = .tuple ds) → ∃ vs, DpAll K G vs ds ∧ ∀ p, v = .ref p → (d = .list ds → SqL K H p vs) ∧ (d = .tuple ds → SqT K H p vs) := by
  unfold PD.look at h
  split at h
  · rename_i d' hd
    obtain ⟨v, hv, he⟩ := r.slot i _ hd
    cases h
    refine ⟨v, hv, Dp.up he r.b.sub, fun ds z => ?_⟩
    have he : Dp K G v d := he
    rcases z with rfl | rfl
    · cases he with
      | lst q1 q2 => exact ⟨_, q2, fun p e => ⟨fun _ => (by cases e; exact r.b.sub.seq q1), fun z => nomatch z⟩⟩
    · cases he with
      | tup q1 q2 => exact ⟨_, q2, fun p e => ⟨(fun z => nomatch z), fun _ => (by cases e; exact sqT_mono r.b.sub q1)⟩⟩
  · rename_i ds' hd
    obtain ⟨v, hv, p, ho, rfl, _, _, _, h4, ⟨vs, rfl, h5⟩⟩ := r.slot i _ hd
    cases h
    refine ⟨_, hv, .lst (SqL.of h4) (h5.up r.b.sub), fun ds z => ?_⟩
    rcases z with z | z
    · cases z
      exact ⟨vs, h5, fun p' e => ⟨fun _ => (by cases e; exact SqL.of h4), fun z => nomatch z⟩⟩
    · cases z
  · rename_i ds' hd
    obtain ⟨v, hv, p, ho, rfl, _, _, _, h4, ⟨vs, rfl, h5⟩⟩ := r.slot i _ hd
    cases h
    refine ⟨_, hv, .dct h4 (h5.up r.b.sub).kvs, fun ds z => ?_⟩
    rcases z with z | z <;> cases z
  · cases h
theorem eIxS (i : Nat) {x : Str} {b : Expr} {g : FE} {pos p : Pos} (hg : PE X b (tE X.K ex W g)) (hN : X.N[i]? = some x := by rfl) (hv : Vis X.env.scope x := by first | exact Or.inl rfl | exact Or.inr (Or.inl rfl) | exact Or.inr (Or.inr rfl))
    (hd : (x == ("__debug__" : Str)) = false := by decide) (hcd : (x == ("__classdict__" : Str)) = false := by decide) (hs : PlainIx b := by exact fun _ _ => rfl) : PE X (.Subscript (.Name x p) b pos) (tE X.K ex W (fIxS i g)) := by
  refine PE.imp (PE.imp (pe_ix ix_seq (pe_var (i := i) hN hv hd hcd) hg hs) fun σ H Q (h : ∃ v, σ[i]? = some (some v) ∧ tE X.K ex W g σ H fun y H2 => rIx X.K v y H2 Q) => h) fun σ H Q ⟨c, G, s, r, h⟩ => ?_
  have h : Post X.K ex W c G σ (fun d G' H' _ => ∀ v, Dp X.K G' v d → Q v H') (match look s i with
    | none => .bad
    | some _ => (g s).bind fun b s => R.of ((look s i).bind fun a => dIx a b) s) := h
  cases z0 : look s i with
  | none =>
    rw [z0] at h
    exact h.elim
  | some a0 =>
    rw [z0] at h
    obtain ⟨v, hv, _⟩ := r.look z0
    refine ⟨v, hv, inE r h fun d' s2 G2 H2 v' e2 r2 hv' h2 => ?_⟩
    cases z : look s2 i with
    | none =>
      rw [z] at h2
      exact h2.elim
    | some a =>
      rw [z] at h2
      simp only [Option.bind_some] at h2
      cases z2 : dIx a d' with
      | none =>
        rw [z2] at h2
        exact h2.elim
      | some y =>
        rw [z2] at h2
        obtain ⟨u, hu, hd, hG⟩ := r2.look2 z
        rw [hv] at hu
        have e : v = u := by simpa using hu
        subst e
        exact od_ix (H2 := H2) r2 hd hG hv' z2 fun w hw => h2.val r2 hw
end
end PD
/-! PD6: comprehensions; defs and their calls. -/
namespace PD
open PySem PySem.Spec L2
open PyProof.Rows hiding St

/-! ### an object beside the slots that must stay -/
section
variable {K : PySem.W.Frag} {ex : ExT} {W : WX} {c : Act} {G H : Hp} {σ : St} {s : S} {p : Addr} {o : HO}
/-- p stands, by no slot, not frozen -/
structure Beside (c : Act) (G H : Hp) (σ : St) (s : S) (p : Addr) (o : HO) : Prop where
  at_ : H p = some o
  g : G p = none
  h0 : c.H0 p = none
  wa : p ≠ c.wa
  ne : ∀ (j : Nat), ObAt s j → σ[j]? ≠ some (some (.ref p))
  pl : plB o = true
abbrev Act.prot (c : Act) (p : Addr) (o : HO) : Act := { c with H0 := upd c.H0 p o }
theorem Rel.prot (r : Rel K c G H σ s) (b : Beside c G H σ s p o) : Rel K (c.prot p o) G H σ s := by
  refine ⟨⟨r.b.sub, r.b.wl, r.b.wf, r.b.scr, r.b.g0, fun a u e n => ?_, fun a u e mu n => ?_, fun q hq => let ⟨t, g, h⟩ := r.b.tb q hq; ⟨t, g, (upd_ne (TabS.ne t b.at_ (plB_pl b.pl))).trans h.1, fun a ps z => by
    by_cases ha : a = p
    · rw [ha] at z
      have z : upd c.H0 p o p = _ := z
      rw [upd_same] at z
      cases z
      cases (plB_pl b.pl)
    · exact h.2 a ps ((upd_ne ha).symm.trans z)⟩, r.b.ng⟩, r.len, fun i e q => ?_, r.sep⟩
  · have e : upd c.H0 p o a = some u := e
    by_cases h : a = p
    · subst h
      rw [upd_same] at e
      cases e
      exact b.at_
    · rw [upd_ne h] at e
      exact r.b.h0 a u e n
  · have e : upd c.H0 p o a = some u := e
    by_cases h : a = p
    · subst h
      exact b.g
    · rw [upd_ne h] at e
      exact r.b.n0 a u e mu n
  · obtain ⟨v, hv, he⟩ := r.slot i e q
    refine ⟨v, hv, he.conv (Same.refl _) rfl rfl rfl fun bb o' ⟨p', vs, ev, h1, h2, h3, h4, h5⟩ => ?_⟩
    have hn : p' ≠ p := fun z => b.ne i ⟨e, q, bb⟩ (by rw [hv, ev, z])
    exact ⟨p', vs, ev, h1, (upd_ne hn).trans h2, h3, h4, h5⟩
theorem Rel.unprot (pl : plB o = true) (h0 : c.H0 p = none) (g0 : c.G0 p = none) (wa : p ≠ c.wa) (r : Rel K (c.prot p o) G H σ s) : Rel K c G H σ s ∧ Beside c G H σ s p o := by
  refine ⟨⟨⟨r.b.sub, r.b.wl, r.b.wf, r.b.scr, r.b.g0, fun a u e n => r.b.h0 a u ((upd_ne (ne_of_none e h0)).trans e) n, fun a u e mu n => r.b.n0 a u ((upd_ne (ne_of_none e h0)).trans e) mu n, fun q hq => let ⟨t, g, h⟩ := r.b.tb q hq; ⟨t, g, (upd_ne (TabS.ne t (r.b.h0 p o upd_same wa) (plB_pl pl))).symm.trans h.1, fun a ps z => h.2 a ps ((upd_ne (ne_of_none z h0)).trans z)⟩, r.b.ng⟩, r.len, fun i e q => ?_, r.sep⟩,
    r.b.h0 p o upd_same wa, r.b.n0 p o upd_same (plB_mu pl) g0, h0, wa, fun j hj z => ?_, pl⟩
  · obtain ⟨v, hv, he⟩ := r.slot i e q
    refine ⟨v, hv, he.conv (Same.refl _) rfl rfl rfl fun bb o' ⟨p', vs, ev, h1, h2, h3, h4, h5⟩ => ?_⟩
    have h2 : upd c.H0 p o p' = none := h2
    have hn : p' ≠ p := fun z => by rw [z, upd_same] at h2; cases h2
    exact ⟨p', vs, ev, h1, (upd_ne hn).symm.trans h2, h3, h4, h5⟩
  · obtain ⟨e, q, bb⟩ := hj
    obtain ⟨v, hv, he⟩ := r.slot j _ q
    obtain ⟨o', p', vs, rfl, _, h2, _⟩ := he.ob bb
    rw [hv] at z
    cases z
    have h2 : upd c.H0 p o p = none := h2
    rw [upd_same] at h2
    cases h2
/-- it is changed -/
theorem Rel.setBeside (r : Rel K c G H σ s) (b : Beside c G H σ s p o) (o' : HO) (pl' : plB o' = true := by rfl) : Rel K c G (upd H p o') σ s ∧ Beside c G (upd H p o') σ s p o' := by
  refine ⟨⟨⟨fun a u e => ?_, ?_, r.b.wf, r.b.scr, r.b.g0, fun a u e n => ?_, r.b.n0, fun q hq => let ⟨t, g, h⟩ := r.b.tb q hq; ⟨TabS.set t b.at_ (plB_pl b.pl), g, h⟩, r.b.ng⟩, r.len, fun i e q => ?_, r.sep⟩, upd_same, b.g, b.h0, b.wa, b.ne, pl'⟩
  · rw [upd_ne (ne_of_none e b.g)]
    exact r.b.sub a u e
  · rw [upd_ne (Ne.symm b.wa)]
    exact r.b.wl
  · rw [upd_ne (ne_of_none e b.h0)]
    exact r.b.h0 a u e n
  · obtain ⟨v, hv, he⟩ := r.slot i e q
    refine ⟨v, hv, he.conv (Same.refl _) rfl rfl rfl fun bb o'' ⟨p', vs, ev, h1, h2, h3, h4, h5⟩ => ?_⟩
    have hn : p' ≠ p := fun z => b.ne i ⟨e, q, bb⟩ (by rw [hv, ev, z])
    exact ⟨p', vs, ev, h1, h2, h3, (upd_ne hn).trans h4, h5⟩
theorem Beside.fresh {vs : List V} {ds : List D} (b : Beside c G H σ s p (.lst vs)) (hd : DpAll K G vs ds) : Fresh K c G H σ s (.ref p) ds :=
  ⟨⟨p, _, rfl, b.g, b.h0, b.wa, b.at_, vs, rfl, hd⟩, fun j hj => b.ne j hj⟩
theorem Fresh.beside {v : V} {ds : List D} (h : Fresh K c G H σ s v ds) : ∃ p vs, v = .ref p ∧ DpAll K G vs ds ∧ Beside c G H σ s p (.lst vs) := by
  obtain ⟨⟨p, ho, rfl, h1, h2, h3, h4, ⟨vs, rfl, h5⟩⟩, hs⟩ := h
  exact ⟨p, vs, rfl, h5, h4, h1, h2, h3, fun j hj => hs j hj, rfl⟩
/-! slots wiped -/
theorem kill_len (l : List Nat) : ∀ (s : S), (kill l s).ρ.length = s.ρ.length := by
  induction l with
  | nil => intro s; rfl
  | cons i l ih => intro s; exact (ih (s.drop i)).trans (by simp)
theorem kill_w (l : List Nat) : ∀ (s : S), (kill l s).w = s.w := by
  induction l with
  | nil => intro s; rfl
  | cons i l ih => intro s; exact ih (s.drop i)
theorem drop_get {s : S} {i j : Nat} {e : Ent} (h : (s.drop i).ρ[j]? = some (some e)) : s.ρ[j]? = some (some e) ∧ i ≠ j := by
  have h : (s.ρ.set i none)[j]? = some (some e) := h
  by_cases hij : i = j
  · subst hij
    by_cases hl : i < s.ρ.length
    · rw [List.getElem?_set_self hl] at h
      cases h
    · rw [List.set_eq_of_length_le (by omega), List.getElem?_eq_none (by omega)] at h
      cases h
  · rw [List.getElem?_set_ne hij] at h
    exact ⟨h, hij⟩
theorem kill_get : ∀ (l : List Nat) {s : S} {j : Nat} {e : Ent}, (kill l s).ρ[j]? = some (some e) → s.ρ[j]? = some (some e) ∧ j ∉ l
  | [], s, j, e, h => ⟨h, by simp⟩
  | i :: l, s, j, e, h => by
    obtain ⟨h1, h2⟩ := kill_get l (s := s.drop i) h
    obtain ⟨h3, h4⟩ := drop_get h1
    exact ⟨h3, by simp [Ne.symm h4, h2]⟩
theorem wipe_at {σ : St} {vs : List Nat} {i : Nat} (h : i ∉ vs) : (wipe σ vs)[i]? = σ[i]? := wipe_out h
theorem Rel.toWipe {vs : List Nat} (r : Rel K c G H σ s) (hs : ∀ j e, s.ρ[j]? = some (some e) → j ∉ vs) {σ' : St} (hl : σ'.length = σ.length) (hσ : ∀ (j : Nat), j ∉ vs → σ'[j]? = σ[j]?) : Rel K c G H σ' s :=
  ⟨r.b, by rw [hl]; exact r.len, fun i e q => by rw [hσ i (hs i e q)]; exact r.slot i e q, fun i j v n h1 h2 h3 => by
    obtain ⟨e1, q1, b1⟩ := h1
    obtain ⟨e2, q2, b2⟩ := h2
    rw [hσ i (hs i _ q1)] at h3
    rw [hσ j (hs j _ q2)]
    exact r.sep i j v n ⟨e1, q1, b1⟩ ⟨e2, q2, b2⟩ h3⟩
theorem wipe_eq {σ σ' : St} {vs : List Nat} (hl : σ'.length = σ.length) (h : ∀ (j : Nat), j ∉ vs → σ'[j]? = σ[j]?) : wipe σ' vs = wipe σ vs := by
  apply List.ext_getElem?
  intro j
  by_cases hj : j ∈ vs
  · have key : ∀ (τ : St) (ws : List Nat), j ∈ ws → (wipe τ ws)[j]? = if j < τ.length then some none else none := by
      intro τ ws
      induction ws with
      | nil => intro h; simp at h
      | cons w ws ih =>
        intro h
        show ((wipe τ ws).set w none)[j]? = _
        by_cases e : w = j
        · subst e
          by_cases hlt : w < τ.length
          · rw [if_pos hlt, List.getElem?_set_self (by rw [wipe_length]; exact hlt)]
          · rw [if_neg hlt, List.set_eq_of_length_le (by rw [wipe_length]; omega), List.getElem?_eq_none (by rw [wipe_length]; omega)]
        · rw [List.getElem?_set_ne e]
          exact ih (by simpa [Ne.symm e] using h)
    rw [key σ' vs hj, key σ vs hj, hl]
  · rw [wipe_out hj, wipe_out hj, h j hj]
end

/-! ### comprehensions: nothing is raised within -/
def W0 : WX := fun _ _ _ _ => False
def R.nox {α : Type} : R α → R α
  | .ok a s => .ok a s
  | _ => .bad
@[simp] theorem R.nox_ok {α : Type} (a : α) (s : S) : (R.ok a s).nox = .ok a s := rfl
@[simp] theorem R.nox_bad {α : Type} : (R.bad : R α).nox = .bad := rfl
def cmpD (vs : List Nat) (tg : FG) (ft : FT) (fe : FE) : List D → Nat → S → R (List D)
  | [], _, s => .ok [] s
  | d :: ds, n, s => match tg d s with
    | none => .bad
    | some s1 => (ft s1).nox.bind fun b s2 => if b = true then (fe s2).nox.bind fun y s3 => if n < sizeLine then (cmpD vs tg ft fe ds (n + 1) (kill vs s3)).bind fun ys s4 => .ok (y :: ys) s4 else .bad
      else cmpD vs tg ft fe ds n (kill vs s2)
def fComp (vs : List Nat) (fi : FA) (tg : FG) (ft : FT) (fe : FE) : FA := fun s => (fi s).bind fun ds s => cmpD vs tg ft fe ds 0 (kill vs s)
def fYes : FT := fun s => .ok true s
section
variable {K : PySem.W.Frag} {ex : ExT} {W : WX}
theorem Post.seqN {α β : Type} {c c2 : Act} {G : Hp} {σ σ2 : St} {r : R α} {g : α → S → R β} {M : β → Hp → Hp → S → Prop} {N : α → Hp → Hp → S → Prop} (h : Post K ex W c G σ M (r.nox.bind g))
    (next : ∀ a s' G' H', Same G G' → Rel K c2 G' H' σ2 s' → Post K ex W c G' σ M (g a s') → N a G' H' s') : Post K ex W0 c2 G σ2 N r := by
  cases r with
  | ok a s => exact fun G2 H2 e2 r2 => next a s G2 H2 e2 r2 (Post.up h e2)
  | exc k as s => exact h.elim
  | bad => exact h.elim
theorem cmpD_drop {vs : List Nat} {tg : FG} {ft : FT} {fe : FE} {ds : List D} {i n : Nat} {d : D} (h : ds[i]? = some d) (s : S) : cmpD vs tg ft fe (ds.drop i) n s = cmpD vs tg ft fe (d :: ds.drop (i + 1)) n s := by
  obtain ⟨hi, e⟩ := List.getElem?_eq_some_iff.mp h
  rw [List.drop_eq_getElem_cons hi, e]
theorem lc_read {c : Act} {G H1 : Hp} {σ : St} {s : S} {J : It} {ds : List D} {l vs : List Nat} {tg : FG} {ft : FT} {fe : FE} {Dd : Addr} {Q : V → Hp → Prop} (hl : ∀ i ∈ l, i ∈ vs) (wk : WkD K G J ds) (r : Rel K c G H1 σ s) (hD : H1 Dd = none)
    (h : Post K ex W c G σ (fun ds G' H' s' => ∀ v, Fresh K c G' H' σ s' v ds → Q v H') (cmpD vs tg ft fe ds 0 (kill vs s))) :
    ∃ W' : Nat → Nat → Hp → Prop, (∃ m, W' 0 m (upd H1 Dd (.lst []))) ∧ ∀ i m H, W' i m H →
      (J.stop i H ∧ Q (.ref Dd) H) ∨ (J.go i H ∧ ∃ Nx : Hp → Prop, (∀ H', Nx H' → ∃ m', m' < m ∧ W' (i + 1) m' H') ∧ ∀ x H', J.yld i H x H' → tG K l tg x (wipe σ vs) H' fun σ2 H2 => wipe σ2 vs = wipe σ vs ∧ tT K ex W0 ft σ2 H2 fun b H3 =>
        if b = true then tE K ex W0 fe σ2 H3 fun y H4 => ∃ acc, H4 Dd = some (.lst acc) ∧ acc.length < sizeLine ∧ Nx (upd H4 Dd (.lst (acc ++ [y]))) else Nx H3) := by
  have g0 : c.G0 Dd = none := (r.b.free hD).2.2.2
  have h0 : c.H0 Dd = none := (r.b.free hD).2.2.1
  have hwa : Dd ≠ c.wa := (r.b.free hD).2.1
  have kk : ∀ (s : S) j e, (kill vs s).ρ[j]? = some (some e) → j ∉ vs := fun s j e q => (kill_get vs q).2
  refine lc_it wk (Qd := fun H => Q (.ref Dd) H) (fun i H => ∃ G' s' acc ys, Same G G' ∧ (∀ j e, s'.ρ[j]? = some (some e) → j ∉ vs) ∧ Rel K c G' H σ s' ∧ Beside c G' H σ s' Dd (.lst acc) ∧ DpAll K G' acc ys ∧
    Post K ex W c G' σ (fun ds G' H' s' => ∀ v, Fresh K c G' H' σ s' v (ys ++ ds) → Q v H') (cmpD vs tg ft fe (ds.drop i) ys.length s')) ?_ (fun i H hi ⟨G', s', acc, ys, e, _, r', _⟩ => ⟨G', e, r'.b.sub⟩) (fun i x H H' hi pv y => ?_) (fun H pv => ?_)
  · obtain ⟨r1, f1⟩ := (r.kill vs).newOwn (ds := []) hD .nil
    obtain ⟨p, ws, e1, q1, b1⟩ := f1.beside
    cases e1
    have e2 : ws = [] := by
      have z := b1.at_
      rw [upd_same] at z
      cases z
      rfl
    subst e2
    exact ⟨G, kill vs s, [], [], Same.refl _, kk s, r1, b1, .nil, h⟩
  · obtain ⟨G', s', acc, ys, e, kl, r', b', hacc, h'⟩ := pv
    -- what is walked, under protection of the new list
    have rp := (r'.prot b').toWipe kl (wipe_length σ vs) fun j hj => wipe_out hj
    obtain ⟨G2, d, e2, r2, hd, hx⟩ := y _ _ _ _ e rp
    rw [cmpD_drop hd] at h'
    unfold cmpD at h'
    cases z : tg d s' with
    | none =>
      simp only [z] at h'
      exact h'.elim
    | some s1 =>
      simp only [z] at h'
      refine ⟨c.prot Dd (.lst acc), G2, s', d, s1, r2, hx, z, fun σ3 k3 r3 => ?_⟩
      have w3 : ∀ (j : Nat), j ∉ vs → σ3[j]? = (wipe σ vs)[j]? := fun j hj => k3.2 j fun q => hj (hl j q)
      refine ⟨(wipe_eq k3.1 w3).trans (wipe_eq (wipe_length σ vs) fun j hj => wipe_out hj), ?_⟩
      have σ3o : ∀ (j : Nat), j ∉ vs → σ[j]? = σ3[j]? := fun j hj => ((w3 j hj).trans (wipe_out hj)).symm
      have σ3l : σ.length = σ3.length := by rw [k3.1, wipe_length]
      refine ⟨c.prot Dd (.lst acc), G2, s1, r3, Post.seqN (Post.up h' e2) fun b s2 G3 H3 e3 r4 h4 => ?_⟩
      cases b with
      | false =>
        simp only [Bool.false_eq_true, if_false] at h4 ⊢
        obtain ⟨r5, b5⟩ := Rel.unprot rfl h0 g0 hwa (((r4.kill vs).toWipe (kk s2) σ3l σ3o))
        exact ⟨G3, kill vs s2, acc, ys, (e.trans e2).trans e3, kk s2, r5, b5, (hacc.up e2).up e3, h4⟩
      | true =>
        simp only [if_true] at h4 ⊢
        refine ⟨c.prot Dd (.lst acc), G3, s2, r4, Post.seqN h4 fun yd s3 G4 H4 e4 r5 h5 v hv => ?_⟩
        by_cases hn : ys.length < sizeLine
        · rw [if_pos hn] at h5
          obtain ⟨r6, b6⟩ := Rel.unprot rfl h0 g0 hwa (((r5.kill vs).toWipe (kk s3) σ3l σ3o))
          obtain ⟨r7, b7⟩ := r6.setBeside b6 (.lst (acc ++ [v]))
          refine ⟨acc, b6.at_, by rw [hacc.len]; exact hn, G4, kill vs s3, acc ++ [v], ys ++ [yd], ((e.trans e2).trans e3).trans e4, kk s3, r7, b7, (((hacc.up e2).up e3).up e4).app (.cons hv .nil), ?_⟩
          rw [List.length_append, List.length_singleton]
          refine Post.seq h5 fun a s4 G5 H5 e5 r8 h8 u hu => ?_
          rw [List.append_assoc] at hu
          exact h8.val' r8 u hu
        · rw [if_neg hn] at h5
          exact h5.elim
  · obtain ⟨G', s', acc, ys, e, kl, r', b', hacc, h'⟩ := pv
    rw [List.drop_length] at h'
    have f := b'.fresh hacc
    exact h'.val' r' _ (by rw [List.append_nil]; exact f)
end
section
variable {X : Cx} {ex : ExT} {W : WX}
theorem oComp {elt tg iter : Expr} {ifs : List Expr} {scope : Scope} {own : List (Str × Nat)} {pos : Pos} {l : List Nat} {fi : FA} {fg : FG} {ft : FT} {fe : FE} (hc : X.calm = true) (hN : X.N.Nodup) (hi : PI X tg iter (tI X.K ex W fi)) (ok : BlkOk X.N X.env.scope scope own)
    (hg : ∀ (s : Shared) (H : Hp) (C : Addr) (cl : List (Str × Addr)) (fp : List Addr), PG (X.blk s H scope (compEnvC scope cl C X.env) fp) tg (tG X.K l fg)) (ht : ∀ (s : Shared) (H : Hp) (C : Addr) (cl : List (Str × Addr)) (fp : List Addr), PTs (X.blk s H scope (compEnvC scope cl C X.env) fp) ifs (tT X.K ex W0 ft))
    (he : ∀ (s : Shared) (H : Hp) (C : Addr) (cl : List (Str × Addr)) (fp : List Addr), PE (X.blk s H scope (compEnvC scope cl C X.env) fp) elt (tE X.K ex W0 fe)) (hl : ∀ i ∈ l, i ∈ own.map (·.2) := by decide) (hs : ∀ x, foldedSetIterable iter X.env x = pure x := by intro _; rfl) :
    PE X (.ListComp elt [⟨tg, iter, ifs, 0⟩] scope pos) (tO X.K ex W (fComp (own.map (·.2)) fi fg ft fe)) :=
  PE.imp (pe_lc hc hN hi ok hg ht he hs) fun σ H Q ⟨c, G, s, r, h⟩ =>
    ⟨c, G, s, r, Post.seq h fun ds s1 G1 H1 e1 r1 h1 J wk Dd hD => lc_read hl wk r1 hD h1⟩
/-- name = [..] on one line, the name a local -/
theorem kSetLc {i : Nat} {y : Str} {py : Pos} {elt tg iter : Expr} {ifs : List Expr} {scope : Scope} {own : List (Str × Nat)} {pos spos : Pos} {l : List Nat} {fi : FA} {fg : FG} {ft : FT} {fe : FE} (hc : X.calm = true) (hN : X.N.Nodup)
    (hi : PI X tg iter (tI X.K ex W fi)) (ok : BlkOk X.N X.env.scope scope own)
    (hg : ∀ (s : Shared) (H : Hp) (C : Addr) (cl : List (Str × Addr)) (fp : List Addr), PG (X.blk s H scope (compEnvC scope cl C X.env) fp) tg (tG X.K l fg)) (ht : ∀ (s : Shared) (H : Hp) (C : Addr) (cl : List (Str × Addr)) (fp : List Addr), PTs (X.blk s H scope (compEnvC scope cl C X.env) fp) ifs (tT X.K ex W0 ft))
    (he : ∀ (s : Shared) (H : Hp) (C : Addr) (cl : List (Str × Addr)) (fp : List Addr), PE (X.blk s H scope (compEnvC scope cl C X.env) fp) elt (tE X.K ex W0 fe)) (hy : X.N[i]? = some y := by rfl) (hyl : X.env.scope.names.lookup y = some .local := by rfl)
    (hsw : swapsWith (.ListComp elt [⟨tg, iter, ifs, 0⟩] scope pos) (some (.Name y py)) spos.line X.env = pure true := by exact sw_true rfl rfl rfl (by decide +kernel)) (hl : ∀ i ∈ l, i ∈ own.map (·.2) := by decide) (hs : ∀ x, foldedSetIterable iter X.env x = pure x := by intro _; rfl) :
    PS X (.Assign [.Name y py] (.ListComp elt [⟨tg, iter, ifs, 0⟩] scope pos) spos) (tS X.K ex W (sSetO i (fComp (own.map (·.2)) fi fg ft fe))) :=
  PS.imp (ps_setLc hc hN hy hyl hsw hi ok hg ht he hs) fun En σ H ⟨c, G, s, r, h⟩ => by
    have h : PostO X.K ex W c G En (((fi s).bind fun ds s => cmpD (own.map (·.2)) fg ft fe ds 0 (kill (own.map (·.2)) s)).stm fun ds s => .nx (s.put i (.own ds))) := h
    have h2 : Post X.K ex W c G σ (fun ds G' H' s' => ∀ v, Fresh X.K c G' H' σ s' v ds → En.nx (σ.set i (some v)) H') ((fi s).bind fun ds s => cmpD (own.map (·.2)) fg ft fe ds 0 (kill (own.map (·.2)) s)) :=
      PostO.fromR h fun ds s' G' H' e r' h' v hv => h' _ G' H' (Same.refl _) (hv.put r' i)
    exact ⟨c, G, s, r, Post.seq h2 fun ds s1 G1 H1 e1 r1 h1 J wk Dd hD => lc_read (Q := fun v H' => En.nx (σ.set i (some v)) H') hl wk r1 hD h1⟩
theorem tsNil : PTs X [] (tT X.K ex W fYes) := PTs.imp pts_nil fun σ H Q ⟨_, _, _, r, h⟩ => h.val' r
theorem tsOne {e : Expr} {ft : FT} (h : PT X e (tT X.K ex W ft)) : PTs X [e] (tT X.K ex W ft) := pts_one h
end

/-! ### defs -/
inductive FR where
  | ret (d : D) (w : Wst)
  | exc (k : Nat) (as : List D) (w : Wst)
  | bad
abbrev Sem' := List D → Wst → FR
/-- n arguments of data, behind the draw list where h -/
def spD (K : PySem.W.Frag) (ex : ExT) (h : Bool) (n : Nat) (sem : Sem') : Sp := fun vs H Q E => ∃ (wa sc : Addr) (G : Hp) (w : Wst) (ds : List D) (vs' : List V), Base K ⟨wa, sc, G, H, 0, []⟩ G H w ∧ vs = (if h = true then V.ref wa :: vs' else vs') ∧ ds.length = n ∧ DpAll K G vs' ds ∧
  match sem ds w with
  | .ret d w' => ∀ v G' H', Base K ⟨wa, sc, G, H, 0, []⟩ G' H' w' → Dp K G' v d → Q v H'
  | .exc k as w' => ∀ cls dx G' H', Base K ⟨wa, sc, G, H, 0, []⟩ G' H' w' → ExcIs K ex k as cls dx G' H' → E cls dx H'
  | .bad => False
def startS (N : Nat) (h : Bool) (ds : List D) (w : Wst) : S :=
  ⟨(if h = true then [some Ent.hdl] else []) ++ (ds.map fun d => some (Ent.val d)) ++ List.replicate (N - ((if h = true then 1 else 0) + ds.length)) none, w⟩
def outF : O → FR
  | .rt d s => .ret d s.w
  | .nx s => .ret .none s.w
  | .exc k as s => .exc k as s.w
  | _ => .bad
def semOf (N : Nat) (h : Bool) (f : FO) : Sem' := fun ds w => outF (f (startS N h ds w))
structure FnD (P : Program) (w : World) (K : PySem.W.Frag) (mg : Str → Option Value) (base : Heap) (ex : ExT) (k : Nat) (x : Str) (h : Bool) (n : Nat) (sem : Sem') : Prop where
  ex : ∃ f fd ps, FnOk P w K mg base (L2.CX P w) k f fd ps (spD K ex h n sem) ∧ mg x = some (.ref f) ∧ PySem.W.keepIn K (.ref f) = true ∧ Binds K fd ps []
theorem FnD.mono {P : Program} {w : World} {K : PySem.W.Frag} {mg : Str → Option Value} {base : Heap} {ex : ExT} {j k : Nat} {x : Str} {h : Bool} {n : Nat} {sem : Sem'} (F : FnD P w K mg base ex j x h n sem) (hk : j ≤ k) : FnD P w K mg base ex k x h n sem := by
  obtain ⟨f, fd, ps, a, b, c, d⟩ := F.ex
  exact ⟨f, fd, ps, a.mono hk, b, c, d⟩
section
variable {P : Program} {w : World} {K : PySem.W.Frag} {mg : Str → Option Value} {base : Heap} {ex : ExT}
theorem base_refl {c : Act} {G H : Hp} {w : Wst} (b : Base K c G H w) : Base K ⟨c.wa, c.sc, G, H, 0, []⟩ G H w := ⟨b.sub, b.wl, b.wf, b.scr, Same.refl _, fun _ _ e _ => e, fun _ _ _ _ n => n, (fun _ h => nomatch h), b.ng⟩
theorem start_rel {wa sc : Addr} {G H : Hp} {w : Wst} {ds : List D} {vs' : List V} {N : List Str} {h : Bool} (b : Base K ⟨wa, sc, G, H, 0, []⟩ G H w) (hd : DpAll K G vs' ds) (hl : ds.length + (if h = true then 1 else 0) ≤ N.length) :
    Rel K ⟨wa, sc, G, H, 0, []⟩ G H (start N (if h = true then V.ref wa :: vs' else vs')) (startS N.length h ds w) := by
  have ev := hd.len
  have key : ∀ (i : Nat) d, ((ds.map fun d => some (Ent.val d))[i]? = some (some d)) → ∃ v, (vs'.map some)[i]? = some (some v) ∧ EntOk K ⟨wa, sc, G, H, 0, []⟩ G H v d := fun i d e => by
    rw [List.getElem?_map] at e
    cases z : ds[i]? with
    | none => rw [z] at e; cases e
    | some d' =>
      rw [z] at e
      have e : Ent.val d' = d := by simpa using e
      subst e
      obtain ⟨v, hv, hvd⟩ := hd.get z
      exact ⟨v, by rw [List.getElem?_map, hv]; rfl, hvd⟩
  have noown : ∀ (i : Nat), ObAt (startS N.length h ds w) i → False := fun i ⟨e, q, bb⟩ => by
    have m := List.mem_of_getElem? q
    unfold startS at m
    simp only [List.mem_append, List.mem_map, List.mem_replicate] at m
    rcases m with (m | ⟨d, _, m⟩) | ⟨_, m⟩
    · cases h with
      | true =>
        have e' : e = Ent.hdl := by simpa using m
        rw [e'] at bb
        cases bb
      | false => simp at m
    · cases m
      cases bb
    · cases m
  refine ⟨b, ?_, fun i e q => ?_, fun i j v n h1 => (noown i h1).elim⟩
  · unfold startS L2.start
    cases h <;> simp at hl ⊢ <;> omega
  · unfold startS at q
    unfold L2.start
    cases h with
    | true =>
      simp only [if_true] at q ⊢
      cases i with
      | zero =>
        have e' : Ent.hdl = e := by simpa using q
        subst e'
        exact ⟨_, rfl, rfl⟩
      | succ i =>
        have q : ((ds.map fun d => some (Ent.val d)) ++ List.replicate (N.length - (1 + ds.length)) none)[i]? = some (some e) := by simpa using q
        by_cases hi : i < ds.length
        · rw [List.getElem?_append_left (by simpa using hi)] at q
          obtain ⟨v, hv, he⟩ := key i e q
          refine ⟨v, ?_, he⟩
          show ((vs'.map some) ++ _)[i]? = _
          rw [List.getElem?_append_left (by simp; omega)]
          exact hv
        · rw [List.getElem?_append_right (by simp; omega)] at q
          have m := List.mem_of_getElem? q
          rw [List.mem_replicate] at m
          cases m.2
    | false =>
      simp only [Bool.false_eq_true, if_false, List.nil_append] at q ⊢
      by_cases hi : i < ds.length
      · rw [List.getElem?_append_left (by simpa using hi)] at q
        obtain ⟨v, hv, he⟩ := key i e q
        refine ⟨v, ?_, he⟩
        rw [List.getElem?_append_left (by simp; omega)]
        exact hv
      · rw [List.getElem?_append_right (by simp; omega)] at q
        have m := List.mem_of_getElem? q
        rw [List.mem_replicate] at m
        cases m.2
/-- a def keeps what its body does -/
theorem fnD {x qual : Str} {st : Stmt} {f : Addr} {fd : FuncData} {N ps : List Str} {k n : Nat} {h : Bool} {fb : FO} (F : Fun K x qual st f fd) (Sc : FnScope N ps (defScope st)) (hn : n + (if h = true then 1 else 0) = ps.length)
    (hN : ps.length ≤ N.length)
    (body : ∀ (cdv : Value) (A : Around) (outer : List Env) (s : Shared) (H : Hp) (E : XK), Room k (A.deeper (envOfC qual (defScope st) s.heap.objs.size f cdv)) →
      PSs (cxOf (L2.CX P w) P w K mg base N qual (defScope st) f cdv A outer s H E) (defBody st) (tS K ex (fun cls d _ H => E cls d H) fb))
    (hb : Binds K fd ps []) (hmg : mg x = some (.ref f)) : FnD P w K mg base ex (k + 1) x h n (semOf N.length h fb) := by
  refine ⟨f, fd, ps, F.okX Sc (fun vs H Q E hh => ?_) (fun cdv A outer s H vs Q E hr hh => ⟨_, body cdv A outer s H E hr, ?_⟩), hmg, F.kp, hb⟩
  · obtain ⟨wa, sc, G, w, ds, vs', _, e, hl, hd, _⟩ := hh
    have z := hd.len
    subst e
    cases h <;> simp at hn ⊢ <;> omega
  · obtain ⟨wa, sc, G, w, ds, vs', b, rfl, hl, hd, q⟩ := hh
    refine ⟨⟨wa, sc, G, H, 0, []⟩, G, startS N.length h ds w, start_rel b hd (by omega), ?_⟩
    unfold semOf at q
    cases z : fb (startS N.length h ds w) with
    | nx s' =>
      rw [z] at q
      exact fun σ' G' H' _ r' => q _ G' H' r'.b .non
    | rt d s' =>
      rw [z] at q
      exact fun v σ' G' H' _ r' hv => q _ G' H' r'.b hv
    | exc k as s' =>
      rw [z] at q
      exact fun cls dx σ' G' H' _ r' hx => q _ _ G' H' r'.b hx
    | bk s' => rw [z] at q; exact q.elim
    | ct s' => rw [z] at q; exact q.elim
    | bad => rw [z] at q; exact q.elim
end
section
variable {K : PySem.W.Frag} {c : Act} {G H G' H' : Hp} {σ : St} {s : S} {w' : Wst}
/-- behind a call -/
theorem Rel.after (r : Rel K c G H σ s) (b : Base K ⟨c.wa, c.sc, G, H, 0, []⟩ G' H' w') : Same G G' ∧ Rel K c G' H' σ { s with w := w' } := by
  refine ⟨b.g0, ⟨b.sub, b.wl, b.wf, b.scr, r.b.g0.trans b.g0, fun a o e n => b.h0 a o (r.b.h0 a o e n) n, fun a o e mu n => ?_, fun q hq => let ⟨t, g, h⟩ := r.b.tb q hq; have ⟨ps, z⟩ := TabS.at_ t; ⟨t.exw r.b.wl b.h0, b.n0 _ _ z rfl g, h⟩, b.ng⟩, r.len, fun i e q => ?_, r.sep⟩
  · by_cases ha : a = c.wa
    · rw [ha]
      exact b.wf
    · exact b.n0 a o (r.b.h0 a o e ha) mu (r.b.n0 a o e mu n)
  · obtain ⟨v, hv, he⟩ := r.slot i e q
    exact ⟨v, hv, he.up b.g0 fun p vs h1 h2 _ h4 mu => ⟨b.h0 p _ h1 h4, b.n0 p _ h1 mu h2⟩⟩
end
def callR (sem : Sem') (ds : List D) (s : S) : R D :=
  match sem ds s.w with
  | .ret d w => .ok d { s with w := w }
  | .exc k as w => .exc k as { s with w := w }
  | .bad => .bad
def fCall (n : Nat) (sem : Sem') (f : FA) : FE := fun s => (f s).bind fun ds s => if ds.length = n then callR sem ds s else .bad
/-- f(the draw list, ..) -/
def fCallH (n i : Nat) (sem : Sem') (f : FA) : FE := fun s => match s.ρ[i]? with
  | some (some .hdl) => (f s).bind fun ds s => if ds.length = n then callR sem ds s else .bad
  | _ => .bad
section
variable {X : Cx} {ex : ExT} {W : WX}
theorem call_fin {c : Act} {G H : Hp} {σ : St} {s : S} {Q : VK} {h : Bool} {n : Nat} {sem : Sem'} {ds : List D} {vs vs' : List V} (r : Rel X.K c G H σ s) (hd : DpAll X.K G vs' ds) (hl : ds.length = n) (hv : vs = if h = true then V.ref c.wa :: vs' else vs')
    (q : Post X.K ex W c G σ (fun d G' H' _ => ∀ v, Dp X.K G' v d → Q v H') (callR sem ds s)) : spD X.K ex h n sem vs H Q (WE W σ) := by
  refine ⟨c.wa, c.sc, G, s.w, ds, vs', base_refl r.b, hv, hl, hd, ?_⟩
  unfold callR at q
  cases z : sem ds s.w with
  | ret d w' =>
    rw [z] at q
    intro v G' H' b hvd
    obtain ⟨e, r'⟩ := r.after b
    exact q G' H' e r' v hvd
  | exc k as w' =>
    rw [z] at q
    intro cls dx G' H' b hx
    obtain ⟨e, r'⟩ := r.after b
    exact q cls dx G' H' e r' hx
  | bad =>
    rw [z] at q
    exact q.elim
theorem eCall {k n : Nat} {x : Str} {sem : Sem'} {e : Expr} {es : List Expr} {f : FA} {p pos : Pos} (F : FnD X.prog X.w X.K X.mg X.base ex k x false n sem) (hr : Room k X.A) (tk : Takes X W) (ha : PA X (e :: es) (tA X.K ex W f)) (hg : Gl X x := by rfl)
    (hdb : (x == ("__debug__" : Str)) = false := by decide) (he : starEach (e :: es) X.env = (false, eval e X.env) :: starEach es X.env := by rfl) (hpl : (backTo pos (starEach es X.env)).any (·.1) = false := by rfl) :
    PE X (.Call (.Name x p) (e :: es) [] pos) (tE X.K ex W (fCall n sem f)) := by
  obtain ⟨fa, fd, ps, ok, hm, hk, hb⟩ := F.ex
  refine PE.imp (pe_callS ok hr hg hm hk hb (fun σ => passAt tk σ) ha hdb he hpl) fun σ H Q ⟨c, G, s, r, q⟩ => inA r q fun ds s1 G1 H1 vs e1 r1 hv q1 => ?_
  by_cases hl : ds.length = n
  · rw [if_pos hl] at q1
    exact call_fin r1 hv hl rfl q1
  · rw [if_neg hl] at q1
    exact q1.elim
theorem eCallH (i : Nat) {k n : Nat} {x y : Str} {sem : Sem'} {es : List Expr} {f : FA} {p p' pos : Pos} (F : FnD X.prog X.w X.K X.mg X.base ex k x true n sem) (hr : Room k X.A) (tk : Takes X W) (ha : PA X es (tA X.K ex W f)) (hg : Gl X x := by rfl)
    (hN : X.N[i]? = some y := by rfl) (hv : Vis X.env.scope y := by first | exact Or.inl rfl | exact Or.inr (Or.inl rfl) | exact Or.inr (Or.inr rfl))
    (hd : (y == ("__debug__" : Str)) = false := by decide) (hcd : (y == ("__classdict__" : Str)) = false := by decide)
    (hdb : (x == ("__debug__" : Str)) = false := by decide) (he : starEach (.Name y p' :: es) X.env = (false, eval (.Name y p') X.env) :: starEach es X.env := by rfl) (hpl : (backTo pos (starEach es X.env)).any (·.1) = false := by rfl) :
    PE X (.Call (.Name x p) (.Name y p' :: es) [] pos) (tE X.K ex W (fCallH n i sem f)) := by
  obtain ⟨fa, fd, ps, ok, hm, hk, hb⟩ := F.ex
  refine PE.imp (pe_callS ok hr hg hm hk hb (fun σ => passAt tk σ) (pa_cons (pe_var hN hv hd hcd) ha he) hdb he hpl) fun σ H Q ⟨c, G, s, r, q⟩ => ?_
  have q : Post X.K ex W c G σ (fun d G' H' _ => ∀ v, Dp X.K G' v d → Q v H') (match s.ρ[i]? with
    | some (some .hdl) => (f s).bind fun ds s => if ds.length = n then callR sem ds s else .bad
    | _ => .bad) := q
  split at q
  · rename_i hh
    obtain ⟨v, hv, he⟩ := r.slot i _ hh
    refine ⟨v, hv, inA r q fun ds s1 G1 H1 vs e1 r1 hvs q1 => ?_⟩
    by_cases hl : ds.length = n
    · rw [if_pos hl] at q1
      refine call_fin (h := true) r1 hvs hl ?_ q1
      have he : v = .ref c.wa := he
      rw [he]
      rfl
    · rw [if_neg hl] at q1
      exact q1.elim
  · exact q.elim
end
end PD
/-! PD7: append, item stores, slices, built-in functions; the draw list; a law. -/
namespace PD
open PySem PySem.Spec L2
open PyProof.Rows hiding St

section
variable {K : PySem.W.Frag} {c : Act} {G H : Hp} {σ : St} {s : S}
/-- a slot's own list as an object beside -/
theorem Rel.takeOwn {i : Nat} {ds : List D} (r : Rel K c G H σ s) (h : s.ρ[i]? = some (some (.own ds))) : ∃ p vs, σ[i]? = some (some (.ref p)) ∧ DpAll K G vs ds ∧ Rel K c G H σ (s.drop i) ∧ Beside c G H σ (s.drop i) p (.lst vs) := by
  obtain ⟨v, hv, p, ho, rfl, h1, h2, h3, h4, ⟨vs, rfl, h5⟩⟩ := r.slot i _ h
  refine ⟨p, vs, hv, h5, r.forget i, h4, h1, h2, h3, fun j ⟨e, q, b⟩ => ?_, rfl⟩
  obtain ⟨q, hij⟩ := drop_get q
  exact r.sep i j _ hij ⟨_, h, rfl⟩ ⟨e, q, b⟩ hv
theorem put_same {i : Nat} {v : V} (h : σ[i]? = some (some v)) : σ.set i (some v) = σ := by
  apply List.ext_getElem?
  intro j
  by_cases hj : i = j
  · subst hj
    rw [List.getElem?_set_self (List.getElem?_eq_some_iff.mp h).1]
    exact h.symm
  · rw [List.getElem?_set_ne hj]
theorem drop_put {i : Nat} {e : Ent} : (s.drop i).put i e = s.put i e := by
  show (⟨(s.ρ.set i none).set i (some e), s.w⟩ : S) = ⟨s.ρ.set i (some e), s.w⟩
  rw [List.set_set]
/-- .. changed -/
theorem Rel.setOwn {i : Nat} {ds ds' : List D} {p : Addr} {vs vs' : List V} (r : Rel K c G H σ s) (h : s.ρ[i]? = some (some (.own ds))) (hv : σ[i]? = some (some (.ref p))) (hp : H p = some (.lst vs)) (hd : DpAll K G vs' ds') :
    Rel K c G (upd H p (.lst vs')) σ (s.put i (.own ds')) := by
  obtain ⟨p', ws, e, _, r1, b1⟩ := r.takeOwn h
  rw [hv] at e
  cases e
  obtain ⟨r2, b2⟩ := r1.setBeside b1 (.lst vs')
  have r3 := (b2.fresh hd).put r2 i
  rw [put_same hv, drop_put] at r3
  exact r3
end

/-- name.append(e) -/
def sApp (i : Nat) (f : FE) : FO := fun s => match look s i with
  | some (.list _) => (f s).stm fun d s => match s.ρ[i]? with
    | some (some (.own ds)) => if ds.length < sizeLine then .nx (s.put i (.own (ds ++ [d]))) else .bad
    | _ => .bad
  | _ => .bad
section
variable {X : Cx} {ex : ExT} {W : WX}
theorem kApp (i : Nat) {x : Str} {e : Expr} {f : FE} {p apos pos pos2 : Pos} (he : PE X e (tE X.K ex W f)) (hN : X.N[i]? = some x := by rfl) (hv : Vis X.env.scope x := by first | exact Or.inl rfl | exact Or.inr (Or.inl rfl) | exact Or.inr (Or.inr rfl))
    (hd : (x == ("__debug__" : Str)) = false := by decide) (hcd : (x == ("__classdict__" : Str)) = false := by decide)
    (hbase : attributeBase (.Name x p) "append" X.env (eval (.Name x p) X.env) = eval (.Name x p) X.env := by rfl)
    (hfew : ((backTo pos (starEach [e] X.env)).all (fun x => !x.1) && (backToKw pos (keywordEach [] X.env)).all (fun x => x.1.isSome) && decide ([e].length + ([] : List Keyword).length + (if ([] : List Keyword).isEmpty then 0 else 1) < 30)) = true := by rfl)
    (hline : (apos.endLine == pos.line) = true := by rfl) (hs : starEach [e] X.env = (false, eval e X.env) :: starEach [] X.env := by rfl) (hplain : (backTo pos (starEach [] X.env)).any (·.1) = false := by rfl)
    (hsw : swapsWith (.Call (.Attribute (.Name x p) "append" apos) [e] [] pos) none pos2.line X.env = pure false := by rfl) :
    PS X (.Expr (.Call (.Attribute (.Name x p) "append" apos) [e] [] pos) pos2) (tS X.K ex W (sApp i f)) :=
  PS.imp (ps_expr (pe_bm PySem.F.plainAttrs_list PySem.F.slot_list_append PySem.F.type_list_append mt_append (pe_var hN hv hd hcd) (pa_cons he pa_nil hs) hbase hfew hline hs hplain) hsw) fun En σ H ⟨c, G, s, r, h⟩ => by
    have h : PostO X.K ex W c G En (match look s i with
      | some (.list _) => (f s).stm fun d s => match s.ρ[i]? with
        | some (some (.own ds)) => if ds.length < sizeLine then .nx (s.put i (.own (ds ++ [d]))) else .bad
        | _ => .bad
      | _ => .bad) := h
    cases z : look s i with
    | none => rw [z] at h; exact h.elim
    | some d0 =>
      cases d0 with
      | list xs0 =>
        rw [z] at h
        obtain ⟨v, hv, hd0⟩ := r.look z
        cases hd0 with
        | lst q1 q2 =>
          rename_i p ws
          refine ⟨_, hv, .inl ⟨rfl, _, q1⟩, soE r h fun d s1 G1 H1 v' e1 r1 hv' h1 => ?_⟩
          split at h1
          · rename_i ds hds
            by_cases hl : ds.length < sizeLine
            · rw [if_pos hl] at h1
              obtain ⟨p', vs, ep, hd, r2, b2⟩ := r1.takeOwn hds
              rw [hv] at ep
              cases ep
              refine ⟨p, vs, v', rfl, rfl, b2.at_, by rw [hd.len]; exact hl, ?_⟩
              exact h1 σ G1 _ (Same.refl _) (r1.setOwn hds hv b2.at_ (hd.app (.cons hv' .nil)))
            · rw [if_neg hl] at h1
              exact h1.elim
          · exact h1.elim
      | _ => rw [z] at h; exact h.elim
/-- name[ix] = e, the name's own list -/
def sSetIx (i : Nat) (f g : FE) : FO := fun s => (f s).stm fun d s => match look s i with
  | none => .bad
  | some _ => (g s).stm fun j s => match s.ρ[i]?, j with
    | some (some (.own ds)), .int k => match ixN ds.length k with
      | some n => .nx (s.put i (.own (ds.set n d)))
      | none => .bad
    | _, _ => .bad
theorem kSetIx (i : Nat) {x : Str} {e ix : Expr} {f g : FE} {p spos pos : Pos} (he : PE X e (tE X.K ex W f)) (hg : PE X ix (tE X.K ex W g)) (hN : X.N[i]? = some x := by rfl) (hv : Vis X.env.scope x := by first | exact Or.inl rfl | exact Or.inr (Or.inl rfl) | exact Or.inr (Or.inr rfl))
    (hd : (x == ("__debug__" : Str)) = false := by decide) (hcd : (x == ("__classdict__" : Str)) = false := by decide)
    (ha : ∀ v, assign (.Subscript (.Name x p) ix spos) X.env v = (do
      let ov ← holding [v] (eval (.Name x p) X.env)
      let iv ← holding [v, ov] (eval ix X.env)
      standAt spos
      holding [v, ov, iv] (setItem ov iv v)
      release [v, ov, iv] []) := by intro _; rfl)
    (hs : swapsWithSole [.Subscript (.Name x p) ix spos] e pos.line X.env = pure false := by rfl) (hw : swappedStores [.Subscript (.Name x p) ix spos] e X.env = pure none := by rfl)
    (h1 : (assignEach [.Subscript (.Name x p) ix spos] X.env).map (·.2) = [assign (.Subscript (.Name x p) ix spos) X.env] := by rfl) :
    PS X (.Assign [.Subscript (.Name x p) ix spos] e pos) (tS X.K ex W (sSetIx i f g)) :=
  PS.imp (ps_asg he (pg_sub (pe_var hN hv hd hcd) hg set_list ha) hs hw h1) fun En σ H ⟨c, G, s, r, h⟩ => soE r h fun d s1 G1 H1 v e1 r1 hv h1 => by
    cases z : look s1 i with
    | none =>
      simp only [z] at h1
      exact h1.elim
    | some d0 =>
      simp only [z] at h1
      obtain ⟨u, hu, _⟩ := r1.look z
      refine ⟨u, hu, soE r1 h1 fun j s2 G2 H2 v2 e2 r2 hv2 h2 => ?_⟩
      split at h2
      · rename_i ds k hds
        cases hv2
        obtain ⟨p', vs, ep, hd, r3, b3⟩ := r2.takeOwn hds
        rw [hu] at ep
        cases ep
        cases zz : ixN ds.length k with
        | none =>
          rw [zz] at h2
          exact h2.elim
        | some n =>
          rw [zz] at h2
          refine ⟨p', vs, k, n, rfl, rfl, b3.at_, by rw [hd.len]; exact zz, ?_⟩
          exact h2 σ G2 _ (Same.refl _) (r2.setOwn hds hu b3.at_ (hd.setI (hv.up e2) n))
      · exact h2.elim

/-! ### slices -/
abbrev FP := S → R (Option Int)
def tP (K : PySem.W.Frag) (ex : ExT) (W : WX) (f : FP) : TO := fun σ H Q => ∃ c G s, Rel K c G H σ s ∧ Post K ex W c G σ (fun o _ H' _ => Q o H') (f s)
def fNoP : FP := fun s => .ok none s
def fPt (f : FE) : FP := fun s => (f s).bind fun d s => match d with
  | .int i => .ok (some i) s
  | _ => .bad
theorem PO.imp {e : Option Expr} {t t' : TO} (h : PO X e t) (k : ∀ σ H Q, t' σ H Q → t σ H Q) : PO X e t' := ⟨fun pins s σ H Q I hw => h.run pins s σ H Q I (k σ H Q hw)⟩
theorem pNone : PO X none (tP X.K ex W fNoP) := PO.imp po_none fun σ H Q ⟨_, _, _, r, h⟩ => h.val' r
theorem pSome {e : Expr} {f : FE} (h : PE X e (tE X.K ex W f)) : PO X (some e) (tP X.K ex W (fPt f)) := PO.imp (po_some h) fun σ H Q ⟨_, _, _, r, h⟩ => inE r h fun d s1 G1 H1 v e1 r1 hv h1 => by
  cases d with
  | int i =>
    cases hv
    exact ⟨i, rfl, h1.val' r1⟩
  | _ => exact h1.elim
theorem inP {K : PySem.W.Frag} {c : Act} {G H : Hp} {σ : St} {s : S} {β : Type} {f : FP} {g : Option Int → S → R β} {M : β → Hp → Hp → S → Prop} {N : Option Int → Hp → Prop} (r : Rel K c G H σ s) (h : Post K ex W c G σ M ((f s).bind g))
    (next : ∀ o s' G' H', Same G G' → Rel K c G' H' σ s' → Post K ex W c G' σ M (g o s') → N o H') : tP K ex W f σ H N :=
  ⟨c, G, s, r, Post.seq h fun a s' G' H' e r' q => next a s' G' H' e r' q⟩
def cutG {α : Type} (xs : List α) (lo hi : Option Int) : List α := (xs.drop (HT.sIx xs.length 0 lo)).take (HT.sIx xs.length xs.length hi - HT.sIx xs.length 0 lo)
theorem cut_dp {K : PySem.W.Frag} {G : Hp} {vs : List V} {ds : List D} (h : DpAll K G vs ds) (lo hi : Option Int) : DpAll K G (cutV vs lo hi) (cutG ds lo hi) := by
  unfold cutV cutG
  rw [h.len]
  exact (h.dropI _).takeI _
/-- a list's slice: a new list -/
def fCut (f : FE) (lo hi : FP) : FA := fun s => (f s).bind fun d s => (lo s).bind fun l s => (hi s).bind fun u s => match d with
  | .list ds => .ok (cutG ds l u) s
  | _ => .bad
theorem oCut {e : Expr} {lo hi : Option Expr} {f : FE} {fl fh : FP} {pos p2 : Pos} (he : PE X e (tE X.K ex W f)) (hl : PO X lo (tP X.K ex W fl)) (hh : PO X hi (tP X.K ex W fh)) : PE X (.Subscript e (.Slice lo hi none p2) pos) (tO X.K ex W (fCut f fl fh)) :=
  PE.imp (pe_slice sl_list he hl hh) fun σ H Q ⟨_, _, _, r, h⟩ => inE r h fun d s1 G1 H1 v e1 r1 hv h1 => inP r1 h1 fun l s2 G2 H2 e2 r2 h2 => inP r2 h2 fun u s3 G3 H3 e3 r3 h3 => by
    cases d with
    | list ds =>
      cases (hv.up e2).up e3 with
      | lst q1 q2 =>
        refine ⟨_, _, rfl, r3.b.sub.seq q1, fun p hp => ?_⟩
        obtain ⟨r4, hf⟩ := r3.newOwn hp (cut_dp q2 l u)
        exact h3.val' r4 _ hf
    | _ => exact h3.elim
/-- a tuple's or a text's -/
def dCut (d : D) (l u : Option Int) : Option D := match d with
  | .tuple ds => some (.tuple (cutG ds l u))
  | .str z => if z.length ≤ sizeLine then some (.str (cutS z l u)) else none
  | _ => none
def fCutT (f : FE) (lo hi : FP) : FE := fun s => (f s).bind fun d s => (lo s).bind fun l s => (hi s).bind fun u s => R.of (dCut d l u) s
theorem cut_whole {α : Type} (xs : List α) (lo hi : Option Int) (h : HT.sIx xs.length 0 lo = 0 ∧ HT.sIx xs.length xs.length hi = xs.length) : cutG xs lo hi = xs := by
  unfold cutG
  rw [h.1, h.2]
  simp
theorem SlR.or {r r' : V → Option Int → Option Int → Hp → VK → Prop} (h : SlR X r) (h' : SlR X r') : SlR X (fun x lo hi H Q => r x lo hi H Q ∨ r' x lo hi H Q) := by
  intro pins s σ H x v vl vu lo hi sl Q I rx hs pl pu q
  rcases q with q | q
  · exact h pins s σ H x v vl vu lo hi sl Q I rx hs pl pu q
  · exact h' pins s σ H x v vl vu lo hi sl Q I rx hs pl pu q
theorem eCut {e : Expr} {lo hi : Option Expr} {f : FE} {fl fh : FP} {pos p2 : Pos} (he : PE X e (tE X.K ex W f)) (hl : PO X lo (tP X.K ex W fl)) (hh : PO X hi (tP X.K ex W fh)) : PE X (.Subscript e (.Slice lo hi none p2) pos) (tE X.K ex W (fCutT f fl fh)) :=
  PE.imp (pe_slice (sl_tupA.or sl_str) he hl hh) fun σ H Q ⟨_, _, _, r, h⟩ => inE r h fun d s1 G1 H1 v e1 r1 hv h1 => inP r1 h1 fun l s2 G2 H2 e2 r2 h2 => inP r2 h2 fun u s3 G3 H3 e3 r3 h3 => by
    have hv3 := (hv.up e2).up e3
    cases d with
    | tuple ds =>
      cases hv3 with
      | tup q1 q2 =>
        refine .inl ⟨_, _, rfl, sqT_mono r3.b.sub q1, fun w => ?_, fun _ p hp => ?_⟩
        · rw [q2.len] at w
          have h3 : Post X.K ex W _ G3 σ (fun d G' H' _ => ∀ v, Dp X.K G' v d → Q v H') (.ok (PyData.tuple (cutG ds l u)) s3) := h3
          rw [cut_whole ds l u w] at h3
          exact h3.val r3 (.tup q1 q2)
        · obtain ⟨sm, r4, hd⟩ := r3.newTup hp (cut_dp q2 l u)
          exact (Post.up h3 sm).val r4 hd
    | str z =>
      cases hv3
      have h3 : Post X.K ex W _ G3 σ (fun d G' H' _ => ∀ v, Dp X.K G' v d → Q v H') (R.of (if z.length ≤ sizeLine then some (PyData.str (cutS z l u)) else none) s3) := h3
      by_cases hz : z.length ≤ sizeLine
      · rw [if_pos hz] at h3
        exact .inr ⟨z, rfl, hz, h3.val r3 (.str _)⟩
      · rw [if_neg hz] at h3
        exact h3.elim
    | _ => exact h3.elim

/-! ### built-in functions of one argument -/
def fB1 (o : D → Option D) (f : FE) : FE := fun s => (f s).bind fun d s => R.of (o d) s
/-- a function of one value is told by o -/
def CaD (K : PySem.W.Frag) (r : List V → Hp → VK → Prop) (o : D → Option D) : Prop :=
  ∀ (c : Act) (G H : Hp) (σ : St) (s : S) (x : V) (a d : D) (Q : VK), Rel K c G H σ s → Dp K G x a → o a = some d → (∀ v G' H', Same G G' → Rel K c G' H' σ s → Dp K G' v d → Q v H') → r [x] H Q
theorem eB1 {e : Expr} {x : Str} {id : String} {r : List V → Hp → VK → Prop} {o : D → Option D} {f : FE} {p pos : Pos} (hc : CallR X (.builtin id) r) (hd : CaD X.K r o) (hm : X.mg x = none) (he : PE X e (tE X.K ex W f)) (hv : bootBuiltins x = some (.builtin id) := by decide +kernel)
    (hg : Gl X x := by rfl) (hn : x ≠ "__name__" := by decide) (hdb : (x == ("__debug__" : Str)) = false := by decide) (hs : starEach [e] X.env = (false, eval e X.env) :: starEach [] X.env := by rfl) (hpl : (backTo pos (starEach [] X.env)).any (·.1) = false := by rfl) :
    PE X (.Call (.Name x p) [e] [] pos) (tE X.K ex W (fB1 o f)) :=
  PE.imp (pe_callB hc hg hm hv (pa_cons he pa_nil hs) hn hdb hs hpl) fun σ H Q ⟨_, _, _, r, q⟩ => inE r q fun d s1 G1 H1 v e1 r1 hv q1 => by
    cases z : o d with
    | none => rw [z] at q1; exact q1.elim
    | some y =>
      rw [z] at q1
      exact hd _ G1 H1 σ s1 v d y Q r1 hv z fun w G2 H2 e2 r2 hw => (Post.up q1 e2).val r2 hw
theorem eT1 {e : Expr} {x : Str} {T : String} {r : List V → Hp → VK → Prop} {o : D → Option D} {f : FE} {p pos : Pos} (hc : CallR X (.type T) r) (hd : CaD X.K r o) (hm : X.mg x = none) (he : PE X e (tE X.K ex W f)) (hv : bootBuiltins x = some (.type T) := by decide +kernel)
    (hg : Gl X x := by rfl) (hn : x ≠ "__name__" := by decide) (hdb : (x == ("__debug__" : Str)) = false := by decide) (hs : starEach [e] X.env = (false, eval e X.env) :: starEach [] X.env := by rfl) (hpl : (backTo pos (starEach [] X.env)).any (·.1) = false := by rfl) :
    PE X (.Call (.Name x p) [e] [] pos) (tE X.K ex W (fB1 o f)) :=
  PE.imp (pe_callTy hc hg hm hv (pa_cons he pa_nil hs) hn hdb hs hpl) fun σ H Q ⟨_, _, _, r, q⟩ => inE r q fun d s1 G1 H1 v e1 r1 hv q1 => by
    cases z : o d with
    | none => rw [z] at q1; exact q1.elim
    | some y =>
      rw [z] at q1
      exact hd _ G1 H1 σ s1 v d y Q r1 hv z fun w G2 H2 e2 r2 hw => (Post.up q1 e2).val r2 hw
def intD : D → Option Int
  | .int i => some i
  | _ => none
def intsD : List D → Option (List Int)
  | [] => some []
  | d :: ds => (intD d).bind fun i => (intsD ds).map fun l => i :: l
def blD : D → Option Bool
  | .bool i => some i
  | _ => none
def blsD : List D → Option (List Bool)
  | [] => some []
  | d :: ds => (blD d).bind fun i => (blsD ds).map fun l => i :: l
theorem intsD_eq : ∀ {ds : List D} {ns : List Int}, intsD ds = some ns → ds = ns.map PyData.int
  | [], ns, h => by cases h; rfl
  | d :: ds, ns, h => by
    unfold intsD at h
    cases d with
    | int i =>
      cases z : intsD ds with
      | none => simp [intD, z] at h
      | some l =>
        simp [intD, z] at h
        subst h
        rw [intsD_eq z]
        rfl
    | _ => simp [intD] at h
theorem blsD_eq : ∀ {ds : List D} {ns : List Bool}, blsD ds = some ns → ds = ns.map PyData.bool
  | [], ns, h => by cases h; rfl
  | d :: ds, ns, h => by
    unfold blsD at h
    cases d with
    | bool i =>
      cases z : blsD ds with
      | none => simp [blD, z] at h
      | some l =>
        simp [blD, z] at h
        subst h
        rw [blsD_eq z]
        rfl
    | _ => simp [blD] at h
@[simp] theorem intsD_map (ns : List Int) : intsD (ns.map PyData.int) = some ns := by
  induction ns with
  | nil => rfl
  | cons n ns ih => simp [intsD, intD, ih]
@[simp] theorem blsD_map (ns : List Bool) : blsD (ns.map PyData.bool) = some ns := by
  induction ns with
  | nil => rfl
  | cons n ns ih => simp [blsD, blD, ih]
def dTup (d : D) : Option D := (items d).map .tuple
def dIntO : D → Option D
  | .int i => some (.int i)
  | .bool b => some (.int (if b then 1 else 0))
  | _ => none
def dSum : D → Option D
  | .list ds => (intsD ds).map fun ns => .int ns.sum
  | _ => none
def dAny : D → Option D
  | .list ds => (blsD ds).map fun ns => .bool (ns.any id)
  | _ => none
def dAll : D → Option D
  | .list ds => (blsD ds).map fun ns => .bool (ns.all id)
  | _ => none
def maxI : List Int → Int
  | [] => 0
  | x :: xs => xs.foldl (fun m y => if y > m then y else m) x
def minI : List Int → Int
  | [] => 0
  | x :: xs => xs.foldl (fun m y => if y < m then y else m) x
def dMax : D → Option D
  | .list ds => (intsD ds).bind fun ns => if 0 < ns.length then some (.int (maxI ns)) else none
  | _ => none
def dMin : D → Option D
  | .list ds => (intsD ds).bind fun ns => if 0 < ns.length then some (.int (minI ns)) else none
  | _ => none
theorem foldl_max (xs : List Int) : ∀ (m : Int), (xs.foldl (fun m y => if y > m then y else m) m = m ∨ xs.foldl (fun m y => if y > m then y else m) m ∈ xs) ∧ m ≤ xs.foldl (fun m y => if y > m then y else m) m ∧ ∀ y ∈ xs, y ≤ xs.foldl (fun m y => if y > m then y else m) m := by
  induction xs with
  | nil => intro m; simp
  | cons x xs ih =>
    intro m
    simp only [List.foldl_cons]
    obtain ⟨h1, h2, h3⟩ := ih (if x > m then x else m)
    have hle : m ≤ (if x > m then x else m) ∧ x ≤ (if x > m then x else m) := by split <;> omega
    refine ⟨?_, Int.le_trans hle.1 h2, fun y hy => ?_⟩
    · rcases h1 with h1 | h1
      · rw [h1]
        split
        · exact .inr (by simp)
        · exact .inl rfl
      · exact .inr (List.mem_cons_of_mem _ h1)
    · rcases List.mem_cons.mp hy with rfl | hy
      · exact Int.le_trans hle.2 h2
      · exact h3 y hy
theorem foldl_min (xs : List Int) : ∀ (m : Int), (xs.foldl (fun m y => if y < m then y else m) m = m ∨ xs.foldl (fun m y => if y < m then y else m) m ∈ xs) ∧ xs.foldl (fun m y => if y < m then y else m) m ≤ m ∧ ∀ y ∈ xs, xs.foldl (fun m y => if y < m then y else m) m ≤ y := by
  induction xs with
  | nil => intro m; simp
  | cons x xs ih =>
    intro m
    simp only [List.foldl_cons]
    obtain ⟨h1, h2, h3⟩ := ih (if x < m then x else m)
    have hle : (if x < m then x else m) ≤ m ∧ (if x < m then x else m) ≤ x := by split <;> omega
    refine ⟨?_, Int.le_trans h2 hle.1, fun y hy => ?_⟩
    · rcases h1 with h1 | h1
      · rw [h1]
        split
        · exact .inr (by simp)
        · exact .inl rfl
      · exact .inr (List.mem_cons_of_mem _ h1)
    · rcases List.mem_cons.mp hy with rfl | hy
      · exact Int.le_trans h2 hle.2
      · exact h3 y hy
theorem maxI_spec {ns : List Int} (h : 0 < ns.length) : maxI ns ∈ ns ∧ ∀ y ∈ ns, y ≤ maxI ns := by
  cases ns with
  | nil => simp at h
  | cons x xs =>
    obtain ⟨h1, h2, h3⟩ := foldl_max xs x
    refine ⟨?_, fun y hy => ?_⟩
    · rcases h1 with h1 | h1
      · exact List.mem_cons.mpr (.inl h1)
      · exact List.mem_cons_of_mem _ h1
    · rcases List.mem_cons.mp hy with rfl | hy
      · exact h2
      · exact h3 y hy
theorem minI_spec {ns : List Int} (h : 0 < ns.length) : minI ns ∈ ns ∧ ∀ y ∈ ns, minI ns ≤ y := by
  cases ns with
  | nil => simp at h
  | cons x xs =>
    obtain ⟨h1, h2, h3⟩ := foldl_min xs x
    refine ⟨?_, fun y hy => ?_⟩
    · rcases h1 with h1 | h1
      · exact List.mem_cons.mpr (.inl h1)
      · exact List.mem_cons_of_mem _ h1
    · rcases List.mem_cons.mp hy with rfl | hy
      · exact h2
      · exact h3 y hy
section
variable {K : PySem.W.Frag}
def rTupO (K : PySem.W.Frag) : List V → Hp → VK → Prop := fun xs H Q => ∃ p ys, xs = [.ref p] ∧ ((SqL K H p ys ∧ ∀ l, H l = none → Q (.ref l) (upd H l (.tup ys))) ∨ (SqT K H p ys ∧ Q (.ref p) H))
theorem cd_tup : CaD K (rTupO K) dTup := by
  intro c G H σ s x a d Q r hx e q
  cases a with
  | list ds =>
    cases e
    cases hx with
    | lst q1 q2 =>
      refine ⟨_, _, rfl, .inl ⟨r.b.sub.seq q1, fun p hp => ?_⟩⟩
      obtain ⟨sm, r2, hv⟩ := r.newTup hp q2
      exact q _ _ _ sm r2 hv
  | tuple ds =>
    cases e
    cases hx with
    | tup q1 q2 => exact ⟨_, _, rfl, .inr ⟨sqT_mono r.b.sub q1, q _ G H (Same.refl _) r (.tup q1 q2)⟩⟩
  | _ => cases e
def rIntO : List V → Hp → VK → Prop := fun xs H Q => (∃ i, xs = [.int i] ∧ Q (.int i) H) ∨ ∃ k, xs = [.bl k] ∧ Q (.int (if k then 1 else 0)) H
theorem cd_int : CaD K rIntO dIntO := by
  intro c G H σ s x a d Q r hx e q
  cases a with
  | int i =>
    cases e
    cases hx
    exact .inl ⟨i, rfl, q _ G H (Same.refl _) r (.int _)⟩
  | bool b =>
    cases e
    cases hx
    exact .inr ⟨b, rfl, q _ G H (Same.refl _) r (.int _)⟩
  | _ => cases e
theorem cd_sum : CaD K (rSum K) dSum := by
  intro c G H σ s x a d Q r hx e q
  cases a with
  | list ds =>
    have e : (intsD ds).map (fun ns => PyData.int ns.sum) = some d := e
    cases z : intsD ds with
    | none => rw [z] at e; cases e
    | some ns =>
      rw [z] at e
      cases e
      rw [intsD_eq z] at hx
      cases hx with
      | lst q1 q2 =>
        rw [q2.of_ints] at q1
        exact ⟨_, ns, rfl, r.b.sub.seq q1, q _ G H (Same.refl _) r (.int _)⟩
  | _ => cases e
theorem cd_any : CaD K (rAny K) dAny := by
  intro c G H σ s x a d Q r hx e q
  cases a with
  | list ds =>
    have e : (blsD ds).map (fun ns => PyData.bool (ns.any id)) = some d := e
    cases z : blsD ds with
    | none => rw [z] at e; cases e
    | some ns =>
      rw [z] at e
      cases e
      rw [blsD_eq z] at hx
      cases hx with
      | lst q1 q2 =>
        rw [q2.of_bls] at q1
        exact ⟨_, ns, rfl, r.b.sub.seq q1, q _ G H (Same.refl _) r (.bl _)⟩
  | _ => cases e
theorem cd_all : CaD K (rAll K) dAll := by
  intro c G H σ s x a d Q r hx e q
  cases a with
  | list ds =>
    have e : (blsD ds).map (fun ns => PyData.bool (ns.all id)) = some d := e
    cases z : blsD ds with
    | none => rw [z] at e; cases e
    | some ns =>
      rw [z] at e
      cases e
      rw [blsD_eq z] at hx
      cases hx with
      | lst q1 q2 =>
        rw [q2.of_bls] at q1
        exact ⟨_, ns, rfl, r.b.sub.seq q1, q _ G H (Same.refl _) r (.bl _)⟩
  | _ => cases e
theorem cd_max : CaD K (rMax K) dMax := by
  intro c G H σ s x a d Q r hx e q
  cases a with
  | list ds =>
    have e : ((intsD ds).bind fun ns => if 0 < ns.length then some (PyData.int (maxI ns)) else none) = some d := e
    cases z : intsD ds with
    | none => rw [z] at e; cases e
    | some ns =>
      rw [z] at e
      simp only [Option.bind_some] at e
      by_cases hl : 0 < ns.length
      · rw [if_pos hl] at e
        cases e
        rw [intsD_eq z] at hx
        cases hx with
        | lst q1 q2 =>
          rw [q2.of_ints] at q1
          refine ⟨_, ns, rfl, r.b.sub.seq q1, hl, fun m h1 h2 => ?_⟩
          obtain ⟨k1, k2⟩ := maxI_spec hl
          have : m = maxI ns := Int.le_antisymm (k2 m h1) (h2 _ k1)
          subst this
          exact q _ G H (Same.refl _) r (.int _)
      · rw [if_neg hl] at e
        cases e
  | _ => cases e
theorem cd_min : CaD K (rMin K) dMin := by
  intro c G H σ s x a d Q r hx e q
  cases a with
  | list ds =>
    have e : ((intsD ds).bind fun ns => if 0 < ns.length then some (PyData.int (minI ns)) else none) = some d := e
    cases z : intsD ds with
    | none => rw [z] at e; cases e
    | some ns =>
      rw [z] at e
      simp only [Option.bind_some] at e
      by_cases hl : 0 < ns.length
      · rw [if_pos hl] at e
        cases e
        rw [intsD_eq z] at hx
        cases hx with
        | lst q1 q2 =>
          rw [q2.of_ints] at q1
          refine ⟨_, ns, rfl, r.b.sub.seq q1, hl, fun m h1 h2 => ?_⟩
          obtain ⟨k1, k2⟩ := minI_spec hl
          have : m = minI ns := Int.le_antisymm (h2 _ k1) (k2 m h1)
          subst this
          exact q _ G H (Same.refl _) r (.int _)
      · rw [if_neg hl] at e
        cases e
  | _ => cases e
end
section
variable {e : Expr} {f : FE} {p pos : Pos}
theorem eTupF (hm : X.mg "tuple" = none) (he : PE X e (tE X.K ex W f)) (hg : Gl X "tuple" := by rfl) (hs : starEach [e] X.env = (false, eval e X.env) :: starEach [] X.env := by rfl) (hpl : (backTo pos (starEach [] X.env)).any (·.1) = false := by rfl) :
    PE X (.Call (.Name "tuple" p) [e] [] pos) (tE X.K ex W (fB1 dTup f)) := eT1 (r := rTupO X.K) call_tuple_of cd_tup hm he (hg := hg) (hs := hs) (hpl := hpl)
theorem eIntF (hm : X.mg "int" = none) (he : PE X e (tE X.K ex W f)) (hg : Gl X "int" := by rfl) (hs : starEach [e] X.env = (false, eval e X.env) :: starEach [] X.env := by rfl) (hpl : (backTo pos (starEach [] X.env)).any (·.1) = false := by rfl) :
    PE X (.Call (.Name "int" p) [e] [] pos) (tE X.K ex W (fB1 dIntO f)) := eT1 (r := rIntO) call_int1 cd_int hm he (hg := hg) (hs := hs) (hpl := hpl)
theorem eSumF (hc : X.calm = true) (hm : X.mg "sum" = none) (he : PE X e (tE X.K ex W f)) (hg : Gl X "sum" := by rfl) (hs : starEach [e] X.env = (false, eval e X.env) :: starEach [] X.env := by rfl) (hpl : (backTo pos (starEach [] X.env)).any (·.1) = false := by rfl) :
    PE X (.Call (.Name "sum" p) [e] [] pos) (tE X.K ex W (fB1 dSum f)) := eB1 (cr_sum hc) cd_sum hm he (hg := hg) (hs := hs) (hpl := hpl)
theorem eAnyF (hc : X.calm = true) (hm : X.mg "any" = none) (he : PE X e (tE X.K ex W f)) (hg : Gl X "any" := by rfl) (hs : starEach [e] X.env = (false, eval e X.env) :: starEach [] X.env := by rfl) (hpl : (backTo pos (starEach [] X.env)).any (·.1) = false := by rfl) :
    PE X (.Call (.Name "any" p) [e] [] pos) (tE X.K ex W (fB1 dAny f)) := eB1 (cr_any hc) cd_any hm he (hg := hg) (hs := hs) (hpl := hpl)
theorem eAllF (hc : X.calm = true) (hm : X.mg "all" = none) (he : PE X e (tE X.K ex W f)) (hg : Gl X "all" := by rfl) (hs : starEach [e] X.env = (false, eval e X.env) :: starEach [] X.env := by rfl) (hpl : (backTo pos (starEach [] X.env)).any (·.1) = false := by rfl) :
    PE X (.Call (.Name "all" p) [e] [] pos) (tE X.K ex W (fB1 dAll f)) := eB1 (cr_all hc) cd_all hm he (hg := hg) (hs := hs) (hpl := hpl)
theorem eMaxF (hc : X.calm = true) (hm : X.mg "max" = none) (he : PE X e (tE X.K ex W f)) (hg : Gl X "max" := by rfl) (hs : starEach [e] X.env = (false, eval e X.env) :: starEach [] X.env := by rfl) (hpl : (backTo pos (starEach [] X.env)).any (·.1) = false := by rfl) :
    PE X (.Call (.Name "max" p) [e] [] pos) (tE X.K ex W (fB1 dMax f)) := eB1 (cr_max hc) cd_max hm he (hg := hg) (hs := hs) (hpl := hpl)
theorem eMinF (hc : X.calm = true) (hm : X.mg "min" = none) (he : PE X e (tE X.K ex W f)) (hg : Gl X "min" := by rfl) (hs : starEach [e] X.env = (false, eval e X.env) :: starEach [] X.env := by rfl) (hpl : (backTo pos (starEach [] X.env)).any (·.1) = false := by rfl) :
    PE X (.Call (.Name "min" p) [e] [] pos) (tE X.K ex W (fB1 dMin f)) := eB1 (cr_min hc) cd_min hm he (hg := hg) (hs := hs) (hpl := hpl)
end

/-! ### functions that give a new list -/
def fListF (f : FE) : FA := fun s => (f s).bind fun d s => R.of (items d) s
theorem oListF {e : Expr} {f : FE} {p pos : Pos} (hm : X.mg "list" = none) (he : PE X e (tE X.K ex W f)) (hg : Gl X "list" := by rfl) (hs : starEach [e] X.env = (false, eval e X.env) :: starEach [] X.env := by rfl) (hpl : (backTo pos (starEach [] X.env)).any (·.1) = false := by rfl) :
    PE X (.Call (.Name "list" p) [e] [] pos) (tO X.K ex W (fListF f)) :=
  PE.imp (pe_callTy call_list_of hg hm (by decide +kernel) (pa_cons he pa_nil hs) (he := hs) (hpl := hpl)) fun σ H Q ⟨_, _, _, r, q⟩ => inE r q fun d s1 G1 H1 v e1 r1 hv q1 => by
    cases d with
    | list ds =>
      cases hv with
      | lst h1 h2 =>
        refine ⟨_, _, rfl, .inl (r1.b.sub.seq h1), fun l hl => ?_⟩
        obtain ⟨r2, hf⟩ := r1.newOwn hl h2
        exact q1.val' r2 _ hf
    | tuple ds =>
      cases hv with
      | tup h1 h2 =>
        refine ⟨_, _, rfl, .inr (sqT_mono r1.b.sub h1), fun l hl => ?_⟩
        obtain ⟨r2, hf⟩ := r1.newOwn hl h2
        exact q1.val' r2 _ hf
    | _ => exact q1.elim
/-- sorted of ints -/
def insI (x : Int) : List Int → List Int
  | [] => [x]
  | y :: ys => if x ≤ y then x :: y :: ys else y :: insI x ys
def sortI : List Int → List Int
  | [] => []
  | x :: xs => insI x (sortI xs)
theorem insI_perm (x : Int) : ∀ ys : List Int, (insI x ys).Perm (x :: ys)
  | [] => .refl _
  | y :: ys => by
    unfold insI
    split
    · exact .refl _
    · exact ((insI_perm x ys).cons y).trans (.swap x y ys)
theorem sortI_perm : ∀ xs : List Int, (sortI xs).Perm xs
  | [] => .refl _
  | x :: xs => (insI_perm x _).trans ((sortI_perm xs).cons x)
theorem insI_sorted (x : Int) : ∀ {ys : List Int}, ys.Pairwise (· ≤ ·) → (insI x ys).Pairwise (· ≤ ·)
  | [], _ => by simp [insI]
  | y :: ys, h => by
    unfold insI
    have h' := List.pairwise_cons.mp h
    split
    · rename_i hxy
      refine List.pairwise_cons.mpr ⟨fun z hz => ?_, h⟩
      rcases List.mem_cons.mp hz with rfl | hz
      · exact hxy
      · exact Int.le_trans hxy (h'.1 z hz)
    · rename_i hxy
      refine List.pairwise_cons.mpr ⟨fun z hz => ?_, insI_sorted x h'.2⟩
      have := (insI_perm x ys).mem_iff.mp hz
      rcases List.mem_cons.mp this with rfl | hz
      · omega
      · exact h'.1 z hz
theorem sortI_sorted : ∀ xs : List Int, (sortI xs).Pairwise (· ≤ ·)
  | [] => .nil
  | x :: xs => insI_sorted x (sortI_sorted xs)
theorem sorted_unique : ∀ {xs ys : List Int}, xs.Perm ys → xs.Pairwise (· ≤ ·) → ys.Pairwise (· ≤ ·) → xs = ys
  | [], ys, p, _, _ => by rw [List.nil_perm.mp p]
  | x :: xs, [], p, _, _ => by simp at p
  | x :: xs, y :: ys, p, h1, h2 => by
    have a := List.pairwise_cons.mp h1
    have b := List.pairwise_cons.mp h2
    have e : x = y := by
      have m1 : x ∈ y :: ys := p.mem_iff.mp (by simp)
      have m2 : y ∈ x :: xs := p.mem_iff.mpr (by simp)
      rcases List.mem_cons.mp m1 with e | m1
      · exact e
      · rcases List.mem_cons.mp m2 with e | m2
        · exact e.symm
        · exact Int.le_antisymm (a.1 y m2) (b.1 x m1)
    subst e
    rw [sorted_unique (List.perm_cons x |>.mp p) a.2 b.2]
def fSortI (f : FE) : FA := fun s => (f s).bind fun d s => match d with
  | .list ds => R.of ((intsD ds).map fun ns => (sortI ns).map PyData.int) s
  | _ => .bad
theorem oSortI {e : Expr} {f : FE} {p pos : Pos} (hm : X.mg "sorted" = none) (he : PE X e (tE X.K ex W f)) (hg : Gl X "sorted" := by rfl) (hs : starEach [e] X.env = (false, eval e X.env) :: starEach [] X.env := by rfl) (hpl : (backTo pos (starEach [] X.env)).any (·.1) = false := by rfl) :
    PE X (.Call (.Name "sorted" p) [e] [] pos) (tO X.K ex W (fSortI f)) :=
  PE.imp (pe_callB cr_sortedI hg hm (by decide +kernel) (pa_cons he pa_nil hs) (he := hs) (hpl := hpl)) fun σ H Q ⟨_, _, _, r, q⟩ => inE r q fun d s1 G1 H1 v e1 r1 hv q1 => by
    cases d with
    | list ds =>
      cases z : intsD ds with
      | none =>
        simp only [z] at q1
        exact q1.elim
      | some ns =>
        simp only [z] at q1
        rw [intsD_eq z] at hv
        cases hv with
        | lst h1 h2 =>
          rw [h2.of_ints] at h1
          refine ⟨_, ns, rfl, r1.b.sub.seq h1, fun ns' l pm so hl => ?_⟩
          have e : ns' = sortI ns := sorted_unique (pm.trans (sortI_perm ns).symm) so (sortI_sorted ns)
          subst e
          obtain ⟨r2, hf⟩ := r1.newOwn hl (DpAll.ints _)
          exact q1.val' r2 _ hf
    | _ => exact q1.elim
/-- list(range(a, b)) -/
def fLR2 (f g : FE) : FA := fun s => (f s).bind fun a s => (g s).bind fun b s => match a, b with
  | .int i, .int j => if -(2 ^ 62) ≤ i ∧ i < 2 ^ 62 ∧ -(2 ^ 62) ≤ j ∧ j < 2 ^ 62 ∧ (j - i).toNat ≤ 2 ^ 24 then .ok (upTo i (j - i).toNat) s else .bad
  | _, _ => .bad
theorem rg_dp {K : PySem.W.Frag} {G : Hp} (i j : Int) : DpAll K G (rgV i j) (upTo i (j - i).toNat) := by
  unfold rgV upTo
  have : ∀ l : List Nat, DpAll K G (l.map fun n => V.int (i + (n : Nat))) (l.map fun (n : Nat) => PyData.int (i + n)) := fun l => by
    induction l with
    | nil => exact .nil
    | cons n l ih => exact .cons (.int _) ih
  exact this _
theorem oLR2 {a b : Expr} {f g : FE} {p p' pos pos' : Pos} (hc : X.calm = true) (hm : X.mg "list" = none) (hm' : X.mg "range" = none) (ha : PE X a (tE X.K ex W f)) (hb : PE X b (tE X.K ex W g)) (hg : Gl X "list" := by rfl) (hg' : Gl X "range" := by rfl)
    (na : starEach [a, b] X.env = (false, eval a X.env) :: starEach [b] X.env := by rfl) (nb : starEach [b] X.env = (false, eval b X.env) :: starEach [] X.env := by rfl)
    (hp : (backTo pos' (starEach [b] X.env)).any (·.1) = false := by rfl)
    (na2 : starEach [.Call (.Name "range" p') [a, b] [] pos'] X.env = (false, eval (.Call (.Name "range" p') [a, b] [] pos') X.env) :: starEach [] X.env := by rfl) :
    PE X (.Call (.Name "list" p) [.Call (.Name "range" p') [a, b] [] pos'] [] pos) (tO X.K ex W (fLR2 f g)) :=
  PE.imp (pe_listRg hc hg hm (prg_2 hg' hm' ha hb na nb hp) na2) fun σ H Q ⟨_, _, _, r, q⟩ => inE r q fun d s1 G1 H1 v e1 r1 hv q1 => inE r1 q1 fun d' s2 G2 H2 v' e2 r2 hv' q2 => by
    cases d with
    | int i =>
      cases d' with
      | int j =>
        cases hv
        cases hv'
        by_cases hj : -(2 ^ 62) ≤ i ∧ i < 2 ^ 62 ∧ -(2 ^ 62) ≤ j ∧ j < 2 ^ 62 ∧ (j - i).toNat ≤ 2 ^ 24
        · have q2 : Post X.K ex W _ G2 σ _ (if -(2 ^ 62) ≤ i ∧ i < 2 ^ 62 ∧ -(2 ^ 62) ≤ j ∧ j < 2 ^ 62 ∧ (j - i).toNat ≤ 2 ^ 24 then R.ok (upTo i (j - i).toNat) s2 else .bad) := q2
          rw [if_pos hj] at q2
          refine ⟨i, j, rfl, rfl, hj, fun l hl => ?_⟩
          obtain ⟨r3, hf⟩ := r2.newOwn hl (rg_dp i j)
          exact q2.val' r3 _ hf
        · have q2 : Post X.K ex W _ G2 σ _ (if -(2 ^ 62) ≤ i ∧ i < 2 ^ 62 ∧ -(2 ^ 62) ≤ j ∧ j < 2 ^ 62 ∧ (j - i).toNat ≤ 2 ^ 24 then R.ok (upTo i (j - i).toNat) s2 else .bad) := q2
          rw [if_neg hj] at q2
          exact q2.elim
      | _ => exact q2.elim
    | _ => exact q2.elim
end
end PD
/-! PD8: the draw list; a law. -/
namespace PD
open PySem PySem.Spec L2
open PyProof.Rows hiding St

/-- the draw list's n-th thing: the script, 0, the number of draws -/
def hdAt (n : Int) (w : Wst) : Option D :=
  if n = 0 then some (.list (w.ns.map PyData.int)) else if n = 1 then some (.int 0) else if n = 2 then some (.int w.k) else none
def fHd (i : Nat) (n : Int) : FE := fun s => match s.ρ[i]? with
  | some (some .hdl) => R.of (hdAt n s.w) s
  | _ => .bad
/-- name[2] = e, the name the draw list -/
def sHd (i : Nat) (f : FE) : FO := fun s => (f s).stm fun d s => match s.ρ[i]?, d with
  | some (some .hdl), .int k => .nx ⟨s.ρ, ⟨s.w.ns, k⟩⟩
  | _, _ => .bad
section
variable {K : PySem.W.Frag} {c : Act} {G H : Hp} {σ : St} {s : S}
theorem Rel.setK (r : Rel K c G H σ s) (k : Int) : Rel K c G (upd H c.wa (.lst [.ref c.sc, .int 0, .int k])) σ ⟨s.ρ, ⟨s.w.ns, k⟩⟩ := by
  refine ⟨⟨fun a u e => ?_, upd_same, r.b.wf, r.b.scr, r.b.g0, fun a u e n => ?_, r.b.n0, fun q hq => let ⟨t, g, h⟩ := r.b.tb q hq; ⟨TabS.set t r.b.wl rfl, g, h⟩, r.b.ng⟩, r.len, fun i e q => ?_, r.sep⟩
  · rw [upd_ne (ne_of_none e r.b.wf)]
    exact r.b.sub a u e
  · rw [upd_ne n]
    exact r.b.h0 a u e n
  · obtain ⟨v, hv, he⟩ := r.slot i e q
    refine ⟨v, hv, he.up (Same.refl _) fun p vs h1 h2 _ h4 _ => ?_⟩
    rw [upd_ne h4]
    exact ⟨h1, h2⟩
end
section
variable {X : Cx} {ex : ExT} {W : WX}
theorem eHd (i : Nat) {n : Int} {x : Str} {p q pos : Pos} {j : Nat} (hN : X.N[i]? = some x := by rfl) (hv : Vis X.env.scope x := by first | exact Or.inl rfl | exact Or.inr (Or.inl rfl) | exact Or.inr (Or.inr rfl))
    (hd : (x == ("__debug__" : Str)) = false := by decide) (hcd : (x == ("__classdict__" : Str)) = false := by decide) (hs : PlainIx (.Constant (.int n) j q) := by exact fun _ _ => rfl) :
    PE X (.Subscript (.Name x p) (.Constant (.int n) j q) pos) (tE X.K ex W (fHd i n)) :=
  PE.imp (pe_ix ix_list (pe_var hN hv hd hcd) pe_int hs) fun σ H Q ⟨c, G, s, r, h⟩ => by
    have h : Post X.K ex W c G σ (fun d G' H' _ => ∀ v, Dp X.K G' v d → Q v H') (match s.ρ[i]? with
      | some (some .hdl) => R.of (hdAt n s.w) s
      | _ => .bad) := h
    split at h
    · rename_i hh
      obtain ⟨v, hv, he⟩ := r.slot i _ hh
      have he : v = .ref c.wa := he
      subst he
      refine ⟨_, hv, c.wa, [V.ref c.sc, V.int 0, V.int s.w.k], n, ?_⟩
      by_cases h0 : n = 0
      · subst h0
        have h : Post X.K ex W c G σ (fun d G' H' _ => ∀ v, Dp X.K G' v d → Q v H') (.ok (PyData.list (s.w.ns.map PyData.int)) s) := h
        exact ⟨.ref c.sc, rfl, rfl, SqL.of r.b.wl, rfl, h.val r (.lst r.b.scr (DpAll.ints _))⟩
      · by_cases h1 : n = 1
        · subst h1
          have h : Post X.K ex W c G σ (fun d G' H' _ => ∀ v, Dp X.K G' v d → Q v H') (.ok (PyData.int 0) s) := h
          exact ⟨.int 0, rfl, rfl, SqL.of r.b.wl, rfl, h.val r (.int _)⟩
        · by_cases h2 : n = 2
          · subst h2
            have h : Post X.K ex W c G σ (fun d G' H' _ => ∀ v, Dp X.K G' v d → Q v H') (.ok (PyData.int s.w.k) s) := h
            exact ⟨.int s.w.k, rfl, rfl, SqL.of r.b.wl, rfl, h.val r (.int _)⟩
          · unfold hdAt at h
            rw [if_neg h0, if_neg h1, if_neg h2] at h
            exact h.elim
    · exact h.elim
theorem kHd (i : Nat) {x : Str} {e : Expr} {f : FE} {p q spos pos : Pos} {j : Nat} (he : PE X e (tE X.K ex W f)) (hN : X.N[i]? = some x := by rfl) (hv : Vis X.env.scope x := by first | exact Or.inl rfl | exact Or.inr (Or.inl rfl) | exact Or.inr (Or.inr rfl))
    (hd : (x == ("__debug__" : Str)) = false := by decide) (hcd : (x == ("__classdict__" : Str)) = false := by decide)
    (ha : ∀ v, assign (.Subscript (.Name x p) (.Constant (.int 2) j q) spos) X.env v = (do
      let ov ← holding [v] (eval (.Name x p) X.env)
      let iv ← holding [v, ov] (eval (.Constant (.int 2) j q) X.env)
      standAt spos
      holding [v, ov, iv] (setItem ov iv v)
      release [v, ov, iv] []) := by intro _; rfl)
    (hs : swapsWithSole [.Subscript (.Name x p) (.Constant (.int 2) j q) spos] e pos.line X.env = pure false := by rfl) (hw : swappedStores [.Subscript (.Name x p) (.Constant (.int 2) j q) spos] e X.env = pure none := by rfl)
    (h1 : (assignEach [.Subscript (.Name x p) (.Constant (.int 2) j q) spos] X.env).map (·.2) = [assign (.Subscript (.Name x p) (.Constant (.int 2) j q) spos) X.env] := by rfl) :
    PS X (.Assign [.Subscript (.Name x p) (.Constant (.int 2) j q) spos] e pos) (tS X.K ex W (sHd i f)) :=
  PS.imp (ps_asg he (pg_sub (pe_var hN hv hd hcd) pe_int set_list ha) hs hw h1) fun En σ H ⟨c, G, s, r, h⟩ => soE r h fun d s1 G1 H1 v e1 r1 hv h1 => by
    split at h1
    · rename_i k hh
      cases hv
      obtain ⟨u, hu, he⟩ := r1.slot i _ hh
      have he : u = .ref c.wa := he
      subst he
      exact ⟨_, hu, c.wa, _, 2, 2, rfl, rfl, r1.b.wl, rfl, h1 σ G1 _ (Same.refl _) (r1.setK k)⟩
    · exact h1.elim
end

/-! ### a law -/
def spLaw (K : PySem.W.Frag) : Sp := fun vs H Q _ => ∃ (a : Addr) (ns : List Int), vs = [.ref a] ∧ SqL K H a (ns.map V.int) ∧ ns.length ≤ 63 ∧ ∀ H', Q (.bl true) H'
/-- the draw list made: [script[:63], 0, 0] -/
def tMkD (K : PySem.W.Frag) : TS := tAsg (tLst (tCons (tSl (rSlL K) (tVar 0) tNoPart (tPart (tC (.int 63)))) (tCons (tC (.int 0)) (tCons (tC (.int 0)) tNil)))) (gName 1)
def lawS (N : Nat) (ns : List Int) : S := ⟨none :: some .hdl :: List.replicate (N - 2) none, ⟨ns, 0⟩⟩
theorem kMkD {X : Cx} {x y : Str} {a1 a2 a3 a4 a5 a6 a7 a8 a9 : Pos} {j1 j2 j3 : Nat} (hN : X.N.Nodup) (hx : X.N[0]? = some x := by rfl) (hy : X.N[1]? = some y := by rfl) (hv : Vis X.env.scope x := by first | exact Or.inl rfl | exact Or.inr (Or.inl rfl) | exact Or.inr (Or.inr rfl))
    (hl : Loc X.env.scope y := by first | exact Or.inl rfl | exact Or.inr rfl) (hd : (x == ("__debug__" : Str)) = false := by decide) (hcd : (x == ("__classdict__" : Str)) = false := by decide) (hf : X.fn y = true ∨ X.env.scope.names.lookup y = some .local := by first | exact .inl rfl | exact .inr rfl)
    (hs : swapsWith (.List [.Subscript (.Name x a1) (.Slice none (some (.Constant (.int 63) j1 a2)) none a3) a4, .Constant (.int 0) j2 a5, .Constant (.int 0) j3 a6] a7) (some (.Name y a8)) a9.line X.env = pure false := by rfl)
    (s1 : starEach [.Subscript (.Name x a1) (.Slice none (some (.Constant (.int 63) j1 a2)) none a3) a4, .Constant (.int 0) j2 a5, .Constant (.int 0) j3 a6] X.env = (false, eval (.Subscript (.Name x a1) (.Slice none (some (.Constant (.int 63) j1 a2)) none a3) a4) X.env) :: starEach [.Constant (.int 0) j2 a5, .Constant (.int 0) j3 a6] X.env := by rfl)
    (s2 : starEach [.Constant (.int 0) j2 a5, .Constant (.int 0) j3 a6] X.env = (false, eval (.Constant (.int 0) j2 a5) X.env) :: starEach [.Constant (.int 0) j3 a6] X.env := by rfl)
    (s3 : starEach [.Constant (.int 0) j3 a6] X.env = (false, eval (.Constant (.int 0) j3 a6) X.env) :: starEach [] X.env := by rfl) :
    PS X (.Assign [.Name y a8] (.List [.Subscript (.Name x a1) (.Slice none (some (.Constant (.int 63) j1 a2)) none a3) a4, .Constant (.int 0) j2 a5, .Constant (.int 0) j3 a6] a7) a9) (tMkD X.K) :=
  ps_set hN hy hl (pe_lst (pa_cons (pe_slice sl_list (pe_var hx hv hd hcd) po_none (po_some pe_int)) (pa_cons pe_int (pa_cons pe_int pa_nil s3) s2) s1)) hs hf
section
variable {P : Program} {w : World} {K : PySem.W.Frag} {mg : Str → Option Value} {base : Heap} {ex : ExT}
theorem cut63 {ns : List Int} (h : ns.length ≤ 63) : cutV (ns.map V.int) none (some 63) = ns.map V.int := by
  unfold cutV
  rw [HT.sIx_none, show HT.sIx (ns.map V.int).length (ns.map V.int).length (some 63) = min 63 (ns.map V.int).length from HT.sIx_nat _ _ 63, List.length_map, Nat.min_eq_right h, Nat.sub_zero, List.drop_zero]
  exact List.take_of_length_le (by rw [List.length_map]; exact Nat.le_refl _)
theorem lawD {x : Str} {st st1 : Stmt} {rest : List Stmt} {f : Addr} {fd : FuncData} {N : List Str} {k : Nat} {fb : FO} (F : Fun K "law" "law" st f fd) (Sc : FnScope N [x] (defScope st)) (hN : 2 ≤ N.length) (hbody : defBody st = st1 :: rest)
    (b1 : ∀ (cdv : Value) (A : Around) (outer : List Env) (s : Shared) (H : Hp) (E : XK), PS (cxOf (L2.CX P w) P w K mg base N "law" (defScope st) f cdv A outer s H E) st1 (tMkD K))
    (body : ∀ (cdv : Value) (A : Around) (outer : List Env) (s : Shared) (H : Hp) (E : XK), Room k (A.deeper (envOfC "law" (defScope st) s.heap.objs.size f cdv)) →
      PSs (cxOf (L2.CX P w) P w K mg base N "law" (defScope st) f cdv A outer s H E) rest (tS K ex (fun cls d _ H => E cls d H) fb))
    (good : ∀ ns : List Int, ns.length ≤ 63 → ∃ s', fb (lawS N.length ns) = .rt (.bool true) s') : FnOk P w K mg base (L2.CX P w) (k + 1) f fd [x] (spLaw K) := by
  refine F.okX Sc (fun vs H Q E hh => ?_) (fun cdv A outer s H vs Q E hr hh => ⟨_, by rw [hbody]; exact pss_cons (b1 cdv A outer s H E) (body cdv A outer s H E hr), ?_⟩)
  · obtain ⟨a, ns, rfl, _⟩ := hh
    rfl
  · obtain ⟨a, ns, rfl, hS, hlen, q⟩ := hh
    have e0 : L2.start N [V.ref a] = some (V.ref a) :: List.replicate (N.length - 1) none := rfl
    rw [e0]
    obtain ⟨m, hm⟩ : ∃ m, N.length = m + 2 := ⟨N.length - 2, by omega⟩
    rw [show N.length - 1 = m + 1 by omega, List.replicate_succ]
    refine ⟨.ref a, rfl, 63, rfl, a, ns.map V.int, rfl, hS, fun p1 hp1 => ?_⟩
    rw [cut63 hlen]
    refine ⟨by show 3 ≤ sizeLine; decide, fun p2 hp2 => ?_⟩
    have ne : p2 ≠ p1 := fun z => by
      rw [z, upd_same] at hp2
      cases hp2
    obtain ⟨s', hg⟩ := good ns hlen
    rw [hm] at hg
    refine ⟨⟨p2, p1, upd (fun _ => none) p1 (.lst (ns.map V.int)), upd (upd H p1 (.lst (ns.map V.int))) p2 (.lst [.ref p1, .int 0, .int 0]), 0, []⟩, upd (fun _ => none) p1 (.lst (ns.map V.int)), lawS (m + 2) ns, ⟨⟨?_, upd_same, ?_, SqL.of upd_same, Same.refl _, fun _ _ e _ => e, fun _ _ _ _ n => n, (fun _ h => nomatch h), fun b ps z => by
      by_cases hb : b = p1
      · rw [hb, upd_same] at z
        cases z
      · rw [upd_ne hb] at z
        cases z⟩, ?_, ?_, ?_⟩, ?_⟩
    · intro b o e
      by_cases hb : b = p1
      · subst hb
        rw [upd_same] at e
        rw [upd_ne (Ne.symm ne), upd_same]
        exact e
      · rw [upd_ne hb] at e
        cases e
    · show upd (fun _ => none) p1 _ p2 = none
      rw [upd_ne ne]
    · simp [lawS]
    · intro i e h
      match i, h with
      | 0, h => simp [lawS] at h
      | 1, h =>
        have h : Ent.hdl = e := by simpa [lawS] using h
        subst h
        exact ⟨.ref p2, rfl, rfl⟩
      | i + 2, h =>
        have h : (List.replicate m (none : Option Ent))[i]? = some (some e) := h
        have := List.mem_of_getElem? h
        rw [List.mem_replicate] at this
        cases this.2
    · intro i j v n ⟨e, h, bb⟩
      match i, h with
      | 0, h => simp [lawS] at h
      | 1, h =>
        have h : Ent.hdl = e := by simpa [lawS] using h
        rw [← h] at bb
        cases bb
      | i + 2, h =>
        have h : (List.replicate m (none : Option Ent))[i]? = some (some e) := h
        have := List.mem_of_getElem? h
        rw [List.mem_replicate] at this
        cases this.2
    · rw [hg]
      intro v σ' G' H' _ _ hv
      cases hv
      exact q H'
end
end PD
/-! PD9: rules by the kind of the values; names compared unfrozen; list + list; xs[::-1]; sorted(set(xs)). -/
namespace PD
open PySem PySem.Spec L2
open PyProof.Rows hiding St

def dAddX (a b : D) : Option D := (dAddI a b).or ((dAddS a b).or (dAddT a b))
section
variable {X : Cx} {ex : ExT} {W : WX} {a b : Expr} {f g : FE} {pos : Pos}
theorem eAddX (hf : PE X a (tE X.K ex W f)) (hg : PE X b (tE X.K ex W g)) : PE X (.BinOp a .Add b pos) (tE X.K ex W (fBin dAddX f g)) :=
  eBin (op_add.or (OpR.or (r := rAddS) op_add_str op_catA)) (od_addI.or (od_addS.or od_addT)) hf hg
def dCutX (d : D) (l u : Option Int) : Option D := match d with
  | .list ds => some (.list (cutG ds l u))
  | d => dCut d l u
def fCutX (f : FE) (lo hi : FP) : FE := fun s => (f s).bind fun d s => (lo s).bind fun l s => (hi s).bind fun u s => R.of (dCutX d l u) s
theorem eCutX {e : Expr} {lo hi : Option Expr} {f : FE} {fl fh : FP} {pos p2 : Pos} (he : PE X e (tE X.K ex W f)) (hl : PO X lo (tP X.K ex W fl)) (hh : PO X hi (tP X.K ex W fh)) : PE X (.Subscript e (.Slice lo hi none p2) pos) (tE X.K ex W (fCutX f fl fh)) :=
  PE.imp (pe_slice (sl_list.or (sl_tupA.or sl_str)) he hl hh) fun σ H Q ⟨_, _, _, r, h⟩ => inE r h fun d s1 G1 H1 v e1 r1 hv h1 => inP r1 h1 fun l s2 G2 H2 e2 r2 h2 => inP r2 h2 fun u s3 G3 H3 e3 r3 h3 => by
    have hv3 := (hv.up e2).up e3
    cases d with
    | list ds =>
      cases hv3 with
      | lst q1 q2 =>
        refine .inl ⟨_, _, rfl, r3.b.sub.seq q1, fun p hp => ?_⟩
        obtain ⟨sm, r4, hd⟩ := r3.newLst hp (cut_dp q2 l u)
        exact (Post.up h3 sm).val r4 hd
    | tuple ds =>
      cases hv3 with
      | tup q1 q2 =>
        refine .inr (.inl ⟨_, _, rfl, sqT_mono r3.b.sub q1, fun w => ?_, fun _ p hp => ?_⟩)
        · rw [q2.len] at w
          have h3 : Post X.K ex W _ G3 σ (fun d G' H' _ => ∀ v, Dp X.K G' v d → Q v H') (.ok (PyData.tuple (cutG ds l u)) s3) := h3
          rw [cut_whole ds l u w] at h3
          exact h3.val r3 (.tup q1 q2)
        · obtain ⟨sm, r4, hd⟩ := r3.newTup hp (cut_dp q2 l u)
          exact (Post.up h3 sm).val r4 hd
    | str z =>
      cases hv3
      have h3 : Post X.K ex W _ G3 σ (fun d G' H' _ => ∀ v, Dp X.K G' v d → Q v H') (R.of (if z.length ≤ sizeLine then some (PyData.str (cutS z l u)) else none) s3) := h3
      by_cases hz : z.length ≤ sizeLine
      · rw [if_pos hz] at h3
        exact .inr (.inr ⟨z, rfl, hz, h3.val r3 (.str _)⟩)
      · rw [if_neg hz] at h3
        exact h3.elim
    | _ => exact h3.elim
/-- name op b, the name's list not frozen -/
def fCmpS (o : D → D → Option D) (i : Nat) (g : FE) : FE := fun s => match look s i with
  | none => .bad
  | some _ => (g s).bind fun b s => R.of ((look s i).bind fun a => o a b) s
theorem cmpS {i : Nat} {x : Str} {b : Expr} {g : FE} {p pos : Pos} {op : CmpOp} {r : R2} {o : D → D → Option D} (ho : OpR X (compareOp op) r) (hd : ∀ (G H : Hp) (u v : V) (a b d : D) (Q : VK), Same G H → Dp X.K H u a → Dp X.K G v b → o a b = some d → (∀ k, d = .bool k → Q (.bl k) H) → r u v H Q)
    (hb : ∀ a b d, o a b = some d → ∃ k, d = .bool k)
    (hg : PE X b (tE X.K ex W g)) (hN : X.N[i]? = some x) (hv : Vis X.env.scope x) (hdb : (x == ("__debug__" : Str)) = false) (hcd : (x == ("__classdict__" : Str)) = false) (hm : behindInMarks op b = false) :
    PE X (.Compare (.Name x p) [op] [b] pos) (tE X.K ex W (fCmpS o i g)) := by
  refine PE.imp (PE.imp (pe_cmpR ho (pe_var (i := i) hN hv hdb hcd) hg hm) fun σ H Q (h : ∃ v, σ[i]? = some (some v) ∧ tE X.K ex W g σ H fun y H2 => r v y H2 Q) => h) fun σ H Q ⟨c, G, s, rl, h⟩ => ?_
  have h : Post X.K ex W c G σ (fun d G' H' _ => ∀ v, Dp X.K G' v d → Q v H') (match look s i with
    | none => .bad
    | some _ => (g s).bind fun b s => R.of ((look s i).bind fun a => o a b) s) := h
  cases z0 : look s i with
  | none =>
    rw [z0] at h
    exact h.elim
  | some a0 =>
    rw [z0] at h
    obtain ⟨v, hv, _⟩ := rl.look z0
    refine ⟨v, hv, inE rl h fun d' s2 G2 H2 v' e2 r2 hv' h2 => ?_⟩
    cases z : look s2 i with
    | none =>
      rw [z] at h2
      exact h2.elim
    | some a =>
      rw [z] at h2
      simp only [Option.bind_some] at h2
      cases z2 : o a d' with
      | none =>
        rw [z2] at h2
        exact h2.elim
      | some y =>
        rw [z2] at h2
        obtain ⟨u, hu, hda⟩ := r2.look z
        rw [hv] at hu
        have e : v = u := by simpa using hu
        subst e
        refine hd G2 H2 v v' a d' y Q r2.b.sub hda hv' z2 fun k ek => ?_
        subst ek
        exact h2.val r2 (.bl k)
theorem eEqS (i : Nat) {k : Nat} {x : Str} {b : Expr} {g : FE} {p pos : Pos} (hr : Room k X.A) (hg : PE X b (tE X.K ex W g)) (hN : X.N[i]? = some x := by rfl) (hv : Vis X.env.scope x := by first | exact Or.inl rfl | exact Or.inr (Or.inl rfl) | exact Or.inr (Or.inr rfl))
    (hdb : (x == ("__debug__" : Str)) = false := by decide) (hcd : (x == ("__classdict__" : Str)) = false := by decide) : PE X (.Compare (.Name x p) [.Eq] [b] pos) (tE X.K ex W (fCmpS dEq i g)) :=
  cmpS (op_eqD hr.units) (fun G H u v a b d Q e hx hy h q => by
    unfold dEq at h
    split at h
    · rename_i hs
      cases h
      exact ⟨a, b, hx.kit hs.1, (hy.up e).kit hs.2, hs.1, hs.2, q _ rfl⟩
    · cases h) (fun a b d h => by
    unfold dEq at h
    split at h
    · cases h; exact ⟨_, rfl⟩
    · cases h) hg hN hv hdb hcd (nomark _)
theorem eNeS (i : Nat) {k : Nat} {x : Str} {b : Expr} {g : FE} {p pos : Pos} (hr : Room k X.A) (hg : PE X b (tE X.K ex W g)) (hN : X.N[i]? = some x := by rfl) (hv : Vis X.env.scope x := by first | exact Or.inl rfl | exact Or.inr (Or.inl rfl) | exact Or.inr (Or.inr rfl))
    (hdb : (x == ("__debug__" : Str)) = false := by decide) (hcd : (x == ("__classdict__" : Str)) = false := by decide) : PE X (.Compare (.Name x p) [.NotEq] [b] pos) (tE X.K ex W (fCmpS dNe i g)) :=
  cmpS (op_neD hr.units) (fun G H u v a b d Q e hx hy h q => by
    unfold dNe at h
    split at h
    · rename_i hs
      cases h
      exact ⟨a, b, hx.kit hs.1, (hy.up e).kit hs.2, hs.1, hs.2, q _ rfl⟩
    · cases h) (fun a b d h => by
    unfold dNe at h
    split at h
    · cases h; exact ⟨_, rfl⟩
    · cases h) hg hN hv hdb hcd (nomark _)
/-! list + list, where no list stands in the written part -/
def NoL (K : PySem.W.Frag) : Prop := ∀ a o, K.lookup a = some o → o.cls ≠ .type "list"
theorem noL_of {K : PySem.W.Frag} (h : (K.all fun p => match p.2.cls with | .type "list" => false | _ => true) = true) : NoL K := fun a o e z => by
  have key : ∀ (l : List (Addr × Obj)), (l.all fun p => match p.2.cls with | .type "list" => false | _ => true) = true → l.lookup a = some o → False := by
    intro l
    induction l with
    | nil => intro _ h; cases h
    | cons p l ih =>
      intro h1 h2
      rw [List.all_cons, Bool.and_eq_true] at h1
      obtain ⟨b, ob⟩ := p
      rw [List.lookup_cons] at h2
      cases hb : a == b with
      | true =>
        rw [hb] at h2
        have e2 : ob = o := by simpa using h2
        subst e2
        have := h1.1
        simp only [z] at this
        cases this
      | false =>
        rw [hb] at h2
        exact ih h1.2 h2
  exact key K h e
theorem isL_of {K : PySem.W.Frag} (nl : NoL K) {X : Cx} (hK : X.K = K) {pins : List (Addr × Obj)} {σ : St} {H : Hp} {s : Shared} {a : Addr} {xs : List V} (I : Inv X pins σ H s) (h : SqL X.K H a xs) :
    ∃ (its : List Value) (n : Nat), Vals xs its ∧ s.heap.get? a = some { cls := .type "list", data := .seq its.toArray n } ∧ xs.length ≤ sizeLine := by
  rcases h with h | ⟨o, its, n, hk, hc, _⟩
  · obtain ⟨z, its, n, r, e⟩ := h.ok I.hok
    exact ⟨its, n, r, e, z⟩
  · rw [hK] at hk
    exact absurd hc (nl a o hk)
def rCatL (K : PySem.W.Frag) : R2 := fun x y H Q => ∃ l b xs zs, x = .ref l ∧ y = .ref b ∧ SqL K H l xs ∧ SqL K H b zs ∧ xs.length + zs.length ≤ sizeLine ∧ ∀ p, H p = none → Q (.ref p) (upd H p (.lst (xs ++ zs)))
theorem op_catL (nl : NoL X.K) : OpR X (binaryOp .Add) (rCatL X.K) := by
  intro pins s σ H x y v u Q I rx ry h
  obtain ⟨l, b, xs, zs, rfl, rfl, hH, hB, hz, q⟩ := h
  cases rx
  cases ry
  obtain ⟨its, n, r, e, _⟩ := isL_of nl rfl I hH
  obtain ⟨its2, n2, r2, e2, _⟩ := isL_of nl rfl I hB
  have k1 := r.length
  have k2 := r2.length
  refine PySem.P.add_list e e2 ?_ (by rw [List.size_toArray, List.size_toArray]; omega)
  have hn : H s.heap.objs.size = none := I.hok.fresh (Nat.le_refl _)
  refine ⟨.ref s.heap.objs.size, _, I.laid (t' := s.toks) (o := .lst (xs ++ zs)) (fun b ob q => Heap.get?_push_of_some _ q) (Nat.le_refl _) ?_, rfl, q _ hn⟩
  exact ⟨by rw [List.length_append]; omega, its ++ its2, 0, r.append r2, by rw [Heap.get?_push_size _ rfl]; simp⟩
def fCatL (f g : FE) : FA := fun s => (f s).bind fun a s => (g s).bind fun b s => match a, b with
  | .list x, .list y => if x.length + y.length ≤ sizeLine then .ok (x ++ y) s else .bad
  | _, _ => .bad
theorem oCatL (nl : NoL X.K) (hf : PE X a (tE X.K ex W f)) (hg : PE X b (tE X.K ex W g)) : PE X (.BinOp a .Add b pos) (tO X.K ex W (fCatL f g)) :=
  PE.imp (pe_op (op_catL nl) hf hg) fun σ H Q ⟨_, _, _, r, h⟩ => inE r h fun d s1 G1 H1 v e1 r1 hv h1 => inE r1 h1 fun d' s2 G2 H2 v' e2 r2 hv' h2 => by
    cases d with
    | list x =>
      cases d' with
      | list y =>
        by_cases hl : x.length + y.length ≤ sizeLine
        · have h2 : Post X.K ex W _ G2 σ (fun ds G' H' s' => ∀ v, Fresh X.K _ G' H' σ s' v ds → Q v H') (if x.length + y.length ≤ sizeLine then R.ok (x ++ y) s2 else .bad) := h2
          rw [if_pos hl] at h2
          cases hv.up e2 with
          | lst q1 q2 =>
            cases hv' with
            | lst q3 q4 =>
              refine ⟨_, _, _, _, rfl, rfl, r2.b.sub.seq q1, r2.b.sub.seq q3, by rw [q2.len, q4.len]; exact hl, fun p hp => ?_⟩
              obtain ⟨r3, hf⟩ := r2.newOwn hp (q2.app q4)
              exact h2.val' r3 _ hf
        · have h2 : Post X.K ex W _ G2 σ (fun ds G' H' s' => ∀ v, Fresh X.K _ G' H' σ s' v ds → Q v H') (if x.length + y.length ≤ sizeLine then R.ok (x ++ y) s2 else .bad) := h2
          rw [if_neg hl] at h2
          exact h2.elim
      | _ => exact h2.elim
    | _ => exact h2.elim
theorem DpRev {K : PySem.W.Frag} {G : Hp} : ∀ {vs : List V} {ds : List D}, DpAll K G vs ds → DpAll K G vs.reverse ds.reverse
  | [], [], _ => by simp; exact .nil
  | v :: vs, d :: ds, h => by
    cases h with
    | cons h1 h2 =>
      rw [List.reverse_cons, List.reverse_cons]
      exact (DpRev h2).app (.cons h1 .nil)
/-- xs[::-1], xs a list -/
def fRevL (f : FE) : FA := fun s => (f s).bind fun d s => match d with
  | .list x => .ok x.reverse s
  | _ => .bad
theorem oRevL {k : Nat} {p1 p2 p3 : Pos} (hf : PE X a (tE X.K ex W f)) : PE X (.Subscript a (.Slice none none (some (.UnaryOp .USub (.Constant (.int 1) k p1) p2)) p3) pos) (tO X.K ex W (fRevL f)) :=
  PE.imp (pe_revL hf) fun σ H Q ⟨_, _, _, r, h⟩ => inE r h fun d s1 G1 H1 v e1 r1 hv h1 => by
    cases d with
    | list x =>
      cases hv with
      | lst q1 q2 =>
        refine ⟨_, _, rfl, r1.b.sub.seq q1, fun p hp => ?_⟩
        obtain ⟨r3, hf⟩ := r1.newOwn hp (DpRev q2)
        exact h1.val' r3 _ hf
    | _ => exact h1.elim
end
end PD
/-! PD10: comparisons as tests, chains, a, b = e1, e2. -/
namespace PD
open PySem PySem.Spec L2
open PyProof.Rows hiding St

section
variable {X : Cx} {ex : ExT} {W : WX} {a b : Expr} {f g : FE} {pos : Pos}
theorem rdBin {K : PySem.W.Frag} {r : R2} {o : D → D → Option D} (hd : OpD K r o) {σ : St} {H : Hp} {Q : VK} (h : tE K ex W (fBin o f g) σ H Q) : tOp r (tE K ex W f) (tE K ex W g) σ H Q := by
  obtain ⟨_, _, _, r, h⟩ := h
  exact inE r h fun d s1 G1 H1 v e1 r1 hv h1 => inE r1 h1 fun d' s2 G2 H2 v' e2 r2 hv' h2 => opFin hd r2 (hv.up e2) hv' h2
theorem toTest {K : PySem.W.Frag} {σ : St} {H : Hp} {Q : Bool → Hp → Prop} (h : tT K ex W (tVal f) σ H Q) : tE K ex W f σ H fun x H' => ∃ k, x = .bl k ∧ Q k H' := by
  obtain ⟨_, _, _, r, h⟩ := h
  refine inE r h fun d s1 G1 H1 v e1 r1 hv h1 => ?_
  cases d with
  | bool k =>
    cases hv
    exact ⟨k, rfl, h1.val' r1⟩
  | _ => exact h1.elim
theorem tCmp {op : CmpOp} {r : R2} {o : D → D → Option D} (ho : OpR X (compareOp op) r) (hd : OpD X.K r o) (hf : PE X a (tE X.K ex W f)) (hg : PE X b (tE X.K ex W g)) (hm : behindInMarks op b = false := by first | exact nomark _ | rfl) :
    PT X (.Compare a [op] [b] pos) (tT X.K ex W (tVal (fBin o f g))) := PT.imp (pt_cmpR ho hf hg hm) fun σ H Q h => rdBin hd (toTest h)
theorem tLt' (hf : PE X a (tE X.K ex W f)) (hg : PE X b (tE X.K ex W g)) : PT X (.Compare a [.Lt] [b] pos) (tT X.K ex W (tVal (fBin dLt f g))) := tCmp op_lt od_lt hf hg
theorem tLe' (hf : PE X a (tE X.K ex W f)) (hg : PE X b (tE X.K ex W g)) : PT X (.Compare a [.LtE] [b] pos) (tT X.K ex W (tVal (fBin dLe f g))) := tCmp op_le od_le hf hg
theorem tGt' (hf : PE X a (tE X.K ex W f)) (hg : PE X b (tE X.K ex W g)) : PT X (.Compare a [.Gt] [b] pos) (tT X.K ex W (tVal (fBin dGt f g))) := tCmp op_gt od_gt hf hg
theorem tGe' (hf : PE X a (tE X.K ex W f)) (hg : PE X b (tE X.K ex W g)) : PT X (.Compare a [.GtE] [b] pos) (tT X.K ex W (tVal (fBin dGe f g))) := tCmp op_ge od_ge hf hg
theorem tEq' {k : Nat} (hr : Room k X.A) (hf : PE X a (tE X.K ex W f)) (hg : PE X b (tE X.K ex W g)) : PT X (.Compare a [.Eq] [b] pos) (tT X.K ex W (tVal (fBin dEq f g))) := tCmp (op_eqD hr.units) od_eq hf hg
theorem tNe' {k : Nat} (hr : Room k X.A) (hf : PE X a (tE X.K ex W f)) (hg : PE X b (tE X.K ex W g)) : PT X (.Compare a [.NotEq] [b] pos) (tT X.K ex W (tVal (fBin dNe f g))) := tCmp (op_neD hr.units) od_ne hf hg
theorem tIsN' (hf : PE X a (tE X.K ex W f)) (hg : PE X b (tE X.K ex W g)) : PT X (.Compare a [.Is] [b] pos) (tT X.K ex W (tVal (fBin dIsN f g))) := tCmp op_isN od_isN hf hg
theorem tNotN' (hf : PE X a (tE X.K ex W f)) (hg : PE X b (tE X.K ex W g)) : PT X (.Compare a [.IsNot] [b] pos) (tT X.K ex W (tVal (fBin dNotN f g))) := tCmp op_notN od_notN hf hg
/-- name op b -/
theorem rdS {i : Nat} {r : R2} {o : D → D → Option D} (hd : ∀ (G H : Hp) (u v : V) (a b d : D) (Q : VK), Same G H → Dp X.K H u a → Dp X.K G v b → o a b = some d → (∀ k, d = .bool k → Q (.bl k) H) → r u v H Q)
    (hb : ∀ a b d, o a b = some d → ∃ k, d = .bool k) {σ : St} {H : Hp} {Q : VK} (h : tE X.K ex W (fCmpS o i g) σ H Q) : tOp r (tVar i) (tE X.K ex W g) σ H Q := by
  obtain ⟨c, G, s, rl, h⟩ := h
  have h : Post X.K ex W c G σ (fun d G' H' _ => ∀ v, Dp X.K G' v d → Q v H') (match look s i with
    | none => .bad
    | some _ => (g s).bind fun b s => R.of ((look s i).bind fun a => o a b) s) := h
  cases z0 : look s i with
  | none =>
    rw [z0] at h
    exact h.elim
  | some a0 =>
    rw [z0] at h
    obtain ⟨v, hv, _⟩ := rl.look z0
    refine ⟨v, hv, inE rl h fun d' s2 G2 H2 v' e2 r2 hv' h2 => ?_⟩
    cases z : look s2 i with
    | none =>
      rw [z] at h2
      exact h2.elim
    | some a =>
      rw [z] at h2
      simp only [Option.bind_some] at h2
      cases z2 : o a d' with
      | none =>
        rw [z2] at h2
        exact h2.elim
      | some y =>
        rw [z2] at h2
        obtain ⟨u, hu, hda⟩ := r2.look z
        rw [hv] at hu
        have e : v = u := by simpa using hu
        subst e
        refine hd G2 H2 v v' a d' y Q r2.b.sub hda hv' z2 fun k ek => ?_
        subst ek
        exact h2.val r2 (.bl k)
theorem eqS_hd {K : PySem.W.Frag} (G H : Hp) (u v : V) (a b d : D) (Q : VK) (e : Same G H) (hx : Dp K H u a) (hy : Dp K G v b) (h : dEq a b = some d) (q : ∀ k, d = .bool k → Q (.bl k) H) : rEqD K u v H Q := by
  unfold dEq at h
  split at h
  · rename_i hs
    cases h
    exact ⟨a, b, hx.kit hs.1, (hy.up e).kit hs.2, hs.1, hs.2, q _ rfl⟩
  · cases h
theorem neS_hd {K : PySem.W.Frag} (G H : Hp) (u v : V) (a b d : D) (Q : VK) (e : Same G H) (hx : Dp K H u a) (hy : Dp K G v b) (h : dNe a b = some d) (q : ∀ k, d = .bool k → Q (.bl k) H) : rNeD K u v H Q := by
  unfold dNe at h
  split at h
  · rename_i hs
    cases h
    exact ⟨a, b, hx.kit hs.1, (hy.up e).kit hs.2, hs.1, hs.2, q _ rfl⟩
  · cases h
theorem eq_bl (a b d : D) (h : dEq a b = some d) : ∃ k, d = .bool k := by
  unfold dEq at h
  split at h
  · cases h; exact ⟨_, rfl⟩
  · cases h
theorem ne_bl (a b d : D) (h : dNe a b = some d) : ∃ k, d = .bool k := by
  unfold dNe at h
  split at h
  · cases h; exact ⟨_, rfl⟩
  · cases h
theorem tEqS (i : Nat) {k : Nat} {x : Str} {p : Pos} (hr : Room k X.A) (hg : PE X b (tE X.K ex W g)) (hN : X.N[i]? = some x := by rfl) (hv : Vis X.env.scope x := by first | exact Or.inl rfl | exact Or.inr (Or.inl rfl) | exact Or.inr (Or.inr rfl))
    (hdb : (x == ("__debug__" : Str)) = false := by decide) (hcd : (x == ("__classdict__" : Str)) = false := by decide) : PT X (.Compare (.Name x p) [.Eq] [b] pos) (tT X.K ex W (tVal (fCmpS dEq i g))) :=
  PT.imp (pt_cmpR (op_eqD hr.units) (pe_var hN hv hdb hcd) hg (nomark _)) fun σ H Q h => rdS eqS_hd eq_bl (toTest h)
theorem tNeS (i : Nat) {k : Nat} {x : Str} {p : Pos} (hr : Room k X.A) (hg : PE X b (tE X.K ex W g)) (hN : X.N[i]? = some x := by rfl) (hv : Vis X.env.scope x := by first | exact Or.inl rfl | exact Or.inr (Or.inl rfl) | exact Or.inr (Or.inr rfl))
    (hdb : (x == ("__debug__" : Str)) = false := by decide) (hcd : (x == ("__classdict__" : Str)) = false := by decide) : PT X (.Compare (.Name x p) [.NotEq] [b] pos) (tT X.K ex W (tVal (fCmpS dNe i g))) :=
  PT.imp (pt_cmpR (op_neD hr.units) (pe_var hN hv hdb hcd) hg (nomark _)) fun σ H Q h => rdS neS_hd ne_bl (toTest h)

/-! ### in, not in: a list, a tuple of data of any depth; a text in a text -/
def rInX (K : PySem.W.Frag) (neg : Bool) : R2 := fun x y H Q => ∃ d ds, L2.Dp K H x d ∧ (L2.Dp K H y (.list ds) ∨ L2.Dp K H y (.tuple ds)) ∧ SeqAt.shaped d = true ∧ SeqAt.shaped (.list ds) = true ∧ Q (.bl (neg ^^ ds.any fun z => PyData.eqv z d)) H
theorem room_inX {A : Around} {ds : List D} {d : D} (hd : SeqAt.shaped d = true) (hu : A.units + 65 < cLine) : A.units + 1 + min (PyData.depthAll ds) d.depth < cLine := by
  have h1 := SeqAt.depth_of_shaped hd
  have h2 : min (PyData.depthAll ds) d.depth ≤ d.depth := Nat.min_le_right _ _
  omega
theorem op_inX (hu : X.A.units + 65 < cLine) : OpR X (compareOp .In) (rInX X.K false) := by
  intro pins s σ H x y v u Q I rx ry ⟨d, ds, hd, he, sd, se, q⟩
  obtain ⟨as, r1⟩ := Dp.reads I d x v hd rx
  rw [Bool.false_xor] at q
  rcases he with he | he
  · obtain ⟨bs, r2⟩ := Dp.reads I _ y u he ry
    exact SeqAt.in_list_reads r2 r1 (SeqAt.canLay_of_shaped se) (SeqAt.canLay_of_shaped sd) (room_inX sd hu) ⟨.bl _, H, I, rfl, q⟩
  · obtain ⟨bs, r2⟩ := Dp.reads I _ y u he ry
    exact SeqAt.in_tuple_reads r2 r1 (SeqAt.canLay_of_shaped se) (SeqAt.canLay_of_shaped sd) (room_inX sd hu) ⟨.bl _, H, I, rfl, q⟩
theorem op_ninX (hu : X.A.units + 65 < cLine) : OpR X (compareOp .NotIn) (rInX X.K true) := by
  intro pins s σ H x y v u Q I rx ry ⟨d, ds, hd, he, sd, se, q⟩
  obtain ⟨as, r1⟩ := Dp.reads I d x v hd rx
  rw [Bool.true_xor] at q
  rcases he with he | he
  · obtain ⟨bs, r2⟩ := Dp.reads I _ y u he ry
    exact SeqAt.notIn_list_reads r2 r1 (SeqAt.canLay_of_shaped se) (SeqAt.canLay_of_shaped sd) (room_inX sd hu) ⟨.bl _, H, I, rfl, q⟩
  · obtain ⟨bs, r2⟩ := Dp.reads I _ y u he ry
    exact SeqAt.notIn_tuple_reads r2 r1 (SeqAt.canLay_of_shaped se) (SeqAt.canLay_of_shaped sd) (room_inX sd hu) ⟨.bl _, H, I, rfl, q⟩
/-- a text within another -/
def inS (i j : Str) : Bool := !(Builtin.Str.occurrences j i 0 j.length 1).isEmpty
def rInS (neg : Bool) : R2 := fun x y H Q => ∃ i j, x = .str i ∧ y = .str j ∧ Q (.bl (neg ^^ inS i j)) H
theorem op_inS : OpR X (compareOp .In) (rInS false) := fun pins s σ H x y v u Q I rx ry ⟨i, j, e1, e2, q⟩ => op_in_str pins s σ H x y v u Q I rx ry ⟨i, j, e1, e2, by rw [Bool.false_xor] at q; exact q⟩
theorem op_ninS : OpR X (compareOp .NotIn) (rInS true) := fun pins s σ H x y v u Q I rx ry ⟨i, j, e1, e2, q⟩ => op_notin_str pins s σ H x y v u Q I rx ry ⟨i, j, e1, e2, by rw [Bool.true_xor] at q; exact q⟩
def dInX (neg : Bool) (a b : D) : Option D := match b with
  | .list ds => if SeqAt.shaped a = true ∧ SeqAt.shaped (.list ds) = true then some (.bool (neg ^^ ds.any fun z => PyData.eqv z a)) else none
  | .tuple ds => if SeqAt.shaped a = true ∧ SeqAt.shaped (.list ds) = true then some (.bool (neg ^^ ds.any fun z => PyData.eqv z a)) else none
  | .str j => match a with
    | .str i => some (.bool (neg ^^ inS i j))
    | _ => none
  | _ => none
abbrev dIn := dInX false
abbrev dNin := dInX true
theorem od_inX {K : PySem.W.Frag} {neg : Bool} : OpD K (fun x y H Q => rInX K neg x y H Q ∨ rInS neg x y H Q) (dInX neg) := by
  intro c G H σ s x y a b d Q r hx hy e q
  unfold dInX at e
  split at e
  · split at e
    · rename_i h
      cases e
      exact .inl ⟨_, _, (hx.up r.b.sub).kit h.1, .inl ((hy.up r.b.sub).kit h.2), h.1, h.2, q _ G H (Same.refl _) r (.bl _)⟩
    · cases e
  · split at e
    · rename_i h
      cases e
      exact .inl ⟨_, _, (hx.up r.b.sub).kit h.1, .inr (dp_kit _ _ (by
        have z := h.2
        unfold SeqAt.shaped at z
        rw [Bool.and_eq_true] at z
        exact z.1) (hy.up r.b.sub)), h.1, h.2, q _ G H (Same.refl _) r (.bl _)⟩
    · cases e
  · split at e
    · cases e
      cases hx
      cases hy
      exact .inr ⟨_, _, rfl, rfl, q _ G H (Same.refl _) r (.bl _)⟩
    · cases e
  · cases e
theorem hu65 {A : Around} {k : Nat} (hr : Room k A) : A.units + 65 < cLine := by have := hr.un; omega
theorem eIn {k : Nat} (hr : Room k X.A) (hf : PE X a (tE X.K ex W f)) (hg : PE X b (tE X.K ex W g)) (hm : behindInMarks .In b = false := by rfl) : PE X (.Compare a [.In] [b] pos) (tE X.K ex W (fBin dIn f g)) := eCmp ((op_inX (hu65 hr)).or op_inS) od_inX hf hg hm
theorem eNin {k : Nat} (hr : Room k X.A) (hf : PE X a (tE X.K ex W f)) (hg : PE X b (tE X.K ex W g)) (hm : behindInMarks .NotIn b = false := by rfl) : PE X (.Compare a [.NotIn] [b] pos) (tE X.K ex W (fBin dNin f g)) := eCmp ((op_ninX (hu65 hr)).or op_ninS) od_inX hf hg hm
theorem tIn' {k : Nat} (hr : Room k X.A) (hf : PE X a (tE X.K ex W f)) (hg : PE X b (tE X.K ex W g)) (hm : behindInMarks .In b = false := by rfl) : PT X (.Compare a [.In] [b] pos) (tT X.K ex W (tVal (fBin dIn f g))) := tCmp ((op_inX (hu65 hr)).or op_inS) od_inX hf hg hm
theorem tNin' {k : Nat} (hr : Room k X.A) (hf : PE X a (tE X.K ex W f)) (hg : PE X b (tE X.K ex W g)) (hm : behindInMarks .NotIn b = false := by rfl) : PT X (.Compare a [.NotIn] [b] pos) (tT X.K ex W (tVal (fBin dNin f g))) := tCmp ((op_ninX (hu65 hr)).or op_ninS) od_inX hf hg hm

/-! ### chains -/
def fChain (o o' : D → D → Option D) (f g h : FE) : FE := fun s => (f s).bind fun a s => (g s).bind fun b s => match o a b with
  | some (.bool true) => (h s).bind fun c s => R.of (o' b c) s
  | some (.bool false) => .ok (.bool false) s
  | _ => .bad
variable {c : Expr} {h' : FE}
theorem rdChain {K : PySem.W.Frag} {r r' : R2} {o o' : D → D → Option D} (hd : OpD K r o) (hd' : OpD K r' o') {σ : St} {H : Hp} {Q : VK} (h : tE K ex W (fChain o o' f g h') σ H Q) : tChain r r' (tE K ex W f) (tE K ex W g) (tE K ex W h') σ H Q := by
  obtain ⟨_, _, _, rl, h⟩ := h
  refine inE rl h fun d s1 G1 H1 v e1 r1 hv h1 => inE r1 h1 fun d' s2 G2 H2 v' e2 r2 hv' h2 => ?_
  cases z : o d d' with
  | none =>
    simp only [z] at h2
    exact h2.elim
  | some y =>
    cases y with
    | bool k =>
      refine hd _ G2 H2 σ s2 v v' d d' _ _ r2 (hv.up e2) hv' z fun w G3 H3 e3 r3 hw => ?_
      cases hw
      refine ⟨k, rfl, ?_⟩
      cases k with
      | true =>
        simp only [z] at h2
        exact inE r3 (Post.up h2 e3) fun d3 s3 G4 H4 v3 e4 r4 hv3 h3 => opFin hd' r4 ((hv'.up e3).up e4) hv3 h3
      | false =>
        simp only [z] at h2
        exact (Post.up h2 e3).val r3 (.bl _)
    | _ =>
      simp only [z] at h2
      exact h2.elim
theorem eChain {op op' : CmpOp} {r r' : R2} {o o' : D → D → Option D} (ho : OpR X (compareOp op) r) (hd : OpD X.K r o) (ho' : OpR X (compareOp op') r') (hd' : OpD X.K r' o') (hf : PE X a (tE X.K ex W f)) (hg : PE X b (tE X.K ex W g)) (hh : PE X c (tE X.K ex W h'))
    (hm : lastMarks [op, op'] [b, c] = false := by with_unfolding_all rfl) : PE X (.Compare a [op, op'] [b, c] pos) (tE X.K ex W (fChain o o' f g h')) := PE.imp (pe_chain ho ho' hf hg hh hm) fun σ H Q h => rdChain hd hd' h
theorem tChn {op op' : CmpOp} {r r' : R2} {o o' : D → D → Option D} (ho : OpR X (compareOp op) r) (hd : OpD X.K r o) (ho' : OpR X (compareOp op') r') (hd' : OpD X.K r' o') (hf : PE X a (tE X.K ex W f)) (hg : PE X b (tE X.K ex W g)) (hh : PE X c (tE X.K ex W h'))
    (hm : lastMarks [op, op'] [b, c] = false := by with_unfolding_all rfl) : PT X (.Compare a [op, op'] [b, c] pos) (tT X.K ex W (tVal (fChain o o' f g h'))) := PT.imp (pt_chain ho ho' hf hg hh hm) fun σ H Q h => rdChain hd hd' (toTest h)

/-! ### a, b = e1, e2 (plain local names) -/
theorem Rel.putV {K : PySem.W.Frag} {c : Act} {G H : Hp} {σ : St} {s : S} (r : Rel K c G H σ s) (i : Nat) {v : V} {d : D} (h : Dp K G v d) : Rel K c G H (σ.set i (some v)) (s.put i (.val d)) :=
  r.put i (e := .val d) h (fun z => nomatch z)
def putAll : List Nat → List D → S → O
  | [], [], s => .nx s
  | i :: is, d :: ds, s => putAll is ds (s.put i (.val d))
  | _, _, _ => .bad
def sPar (is : List Nat) (f : FA) : FO := fun s => (f s).stm fun ds s => putAll is ds s
theorem kPar2 {i0 i1 : Nat} {x y : Str} {px py pt : Pos} {kt k2 pt2} {fa : FA} (hN : X.N.Nodup) (ha : PA X [a, b] (tA X.K ex W fa)) (hc : X.calm = true := by rfl) (hi : X.N[i0]? = some x := by rfl) (hj : X.N[i1]? = some y := by rfl) (hij : i0 ≠ i1 := by decide)
    (hx : X.env.scope.names.lookup x = some .local := by rfl) (hy : X.env.scope.names.lookup y = some .local := by rfl) (hw : swappedStores [.Tuple [.Name x px, .Name y py] kt pt] (.Tuple [a, b] k2 pt2) X.env = pure (some [x, y]) := by rfl)
    (hs : swapsWithSole [.Tuple [.Name x px, .Name y py] kt pt] (.Tuple [a, b] k2 pt2) pos.line X.env = pure false := by rfl) :
    PS X (.Assign [.Tuple [.Name x px, .Name y py] kt pt] (.Tuple [a, b] k2 pt2) pos) (tS X.K ex W (sPar [i0, i1] fa)) :=
  PS.imp (ps_par hc hN hi hj hij hx hy ha hw hs) fun En σ H ⟨_, _, _, r, h⟩ => soA r h fun ds s1 G1 H1 vs e1 r1 hv h1 => by
    match ds, vs, hv, h1 with
    | [d1, d2], _, .cons q1 (.cons q2 .nil), h1 =>
      exact ⟨_, _, rfl, h1 _ G1 H1 (Same.refl _) ((r1.putV i0 q1).putV i1 q2)⟩
    | [], _, _, h1 => exact h1.elim
    | [_], _, _, h1 => exact h1.elim
    | _ :: _ :: _ :: _, _, _, h1 => exact h1.elim
theorem kPar3 {i0 i1 i2 : Nat} {x y z : Str} {px py pz pt : Pos} {kt k2 pt2} {fa : FA} (hN : X.N.Nodup) (ha : PA X [a, b, c] (tA X.K ex W fa)) (hc : X.calm = true := by rfl) (hi : X.N[i0]? = some x := by rfl) (hj : X.N[i1]? = some y := by rfl) (hl : X.N[i2]? = some z := by rfl) (hij : i0 ≠ i1 := by decide) (hil : i0 ≠ i2 := by decide) (hjl : i1 ≠ i2 := by decide)
    (hx : X.env.scope.names.lookup x = some .local := by rfl) (hy : X.env.scope.names.lookup y = some .local := by rfl) (hz : X.env.scope.names.lookup z = some .local := by rfl) (hw : swappedStores [.Tuple [.Name x px, .Name y py, .Name z pz] kt pt] (.Tuple [a, b, c] k2 pt2) X.env = pure (some [x, y, z]) := by rfl)
    (hs : swapsWithSole [.Tuple [.Name x px, .Name y py, .Name z pz] kt pt] (.Tuple [a, b, c] k2 pt2) pos.line X.env = pure false := by rfl) :
    PS X (.Assign [.Tuple [.Name x px, .Name y py, .Name z pz] kt pt] (.Tuple [a, b, c] k2 pt2) pos) (tS X.K ex W (sPar [i0, i1, i2] fa)) :=
  PS.imp (ps_par3 hc hN hi hj hl hij hil hjl hx hy hz ha hw hs) fun En σ H ⟨_, _, _, r, h⟩ => soA r h fun ds s1 G1 H1 vs e1 r1 hv h1 => by
    match ds, vs, hv, h1 with
    | [d1, d2, d3], _, .cons q1 (.cons q2 (.cons q3 .nil)), h1 =>
      exact ⟨_, _, _, rfl, h1 _ G1 H1 (Same.refl _) (((r1.putV i0 q1).putV i1 q2).putV i2 q3)⟩
    | [], _, _, h1 => exact h1.elim
    | [_], _, _, h1 => exact h1.elim
    | [_, _], _, _, h1 => exact h1.elim
    | _ :: _ :: _ :: _ :: _, _, _, h1 => exact h1.elim
end
/-- a def that is not called -/
theorem fnD_bad {P : Program} {w : World} {K : PySem.W.Frag} {mg : Str → Option Value} {base : Heap} {ex : ExT} {k n : Nat} {x : Str} {h : Bool} {f : Addr} {fd : FuncData} {ps : List Str} (kp : PySem.W.keepIn K (.ref f) = true) (hb : Binds K fd ps []) (hmg : mg x = some (.ref f)) :
    FnD P w K mg base ex k x h n (fun _ _ => .bad) :=
  ⟨f, fd, ps, ⟨fun vs H Q E hh => by obtain ⟨_, _, _, _, _, _, _, _, _, _, q⟩ := hh; exact q.elim, fun _ _ _ _ _ _ _ _ _ _ _ _ _ hh => by obtain ⟨_, _, _, _, _, _, _, _, _, _, q⟩ := hh; exact q.elim⟩, hmg, kp, hb⟩
end PD
/-! PD11: own exceptions: made, raised, caught. -/
namespace PD
open PySem PySem.Spec L2
open PyProof.Rows hiding St
section
variable {prog : Program} {w : World} {A : Around} {E : Value → Shared → Prop} {R : Result → Shared → Prop} {hp : Heap} {g : Array GenState} {d : Drawn} {t : Nat} {os : OsState}
/-- the first field: the dict is made -/
theorem exSet1 {K : PySem.W.Frag} {name : Str} {tk : Tok} {v : Value} {x C : Addr} {fv : Array Value}
    (X : K.In hp) (hx : hp.get? x = some { cls := .ref C, data := .fields fv }) (hov : PySem.W.excOver K C ESX.exTail = true) (hh : PySem.W.hasDictIn K C = true) (ha : PySem.W.takerIn K C name = some none)
    (hq : ∀ h' tk' dx, (∀ b o, b ≠ x → hp.get? b = some o → h'.get? b = some o) → hp.objs.size ≤ dx → dx ≠ x → h'.get? x = some { cls := .ref C, dict := some dx, data := .fields fv } →
      h'.Ns1 dx (fun y => if y = name then some v else none) → R (.ok (.ret .none)) ⟨h', g, d, tk', os⟩) :
    codeAny (model prog w) A (.call (.builtin "object.__setattr__") ⟨[.ref x, .str name tk, v], []⟩) R ⟨hp, g, d, t, os⟩ := by
  have hne : x ≠ hp.objs.size := Nat.ne_of_lt (Heap.lt_size hx)
  obtain ⟨cd, hc, hd'⟩ := PySem.W.any_some hh
  have Lc : PySem.W.Looks (model prog w) hp (classData C) cd := PySem.W.looks_clsIn X hc
  refine PySem.W.osa_openX (s := ⟨hp, g, d, t, os⟩) (od := none) PySem.F.store_Exception X ⟨hx, rfl, rfl, trivial⟩ hov ha fun b => ?_
  obtain ⟨nm, bs, mro, ns, qn, hd, sn, sb, ab, col, del⟩ := cd
  dsimp only at hd'
  subst hd'
  unfold Builtin.ObjectAttr.storeInOwnDict Builtin.ObjectAttr.ownDictForStores
  repeat (first | with_reducible refine HandSPX.store_in_new ?_ ?_ | with_reducible refine wpAny_loadPart_at hx ?_ | with_reducible refine Lc.at ?_ | wp_step)
  · exact ⟨_, #[], _, (Heap.get?_update_ne _ _ _ _ hne.symm).trans (Heap.get?_push_at rfl rfl), rfl, fun e he => absurd he (by simp), fun _ => rfl⟩
  · intro h' tk' hn' hs
    refine hq h' tk' hp.objs.size (fun b o hb ho => ?_) (Nat.le_refl _) hne.symm ?_ hn'
    · have e1 := hs.2 b (Nat.ne_of_lt (Heap.lt_size ho))
      rw [e1, Heap.get?_update_ne _ _ _ _ hb]
      exact Heap.get?_push_of_some _ ho
    · rw [hs.2 x hne]
      exact Heap.get?_update_self _ (Heap.get?_push_of_some _ hx) rfl
/-- a later field -/
theorem exSet2 {K : PySem.W.Frag} {name : Str} {tk : Tok} {v : Value} {x C dx : Addr} {fv : Array Value} {m0 : Str → Option Value} {nl : List Str}
    (X : K.In hp) (hx : hp.get? x = some { cls := .ref C, dict := some dx, data := .fields fv }) (hns : hp.Ns1 dx m0) (hw : Within m0 nl) (hz : nl.length ≤ 1000) (hov : PySem.W.excOver K C ESX.exTail = true) (hh : PySem.W.hasDictIn K C = true)
    (ha : PySem.W.takerIn K C name = some none)
    (hq : ∀ h' tk', (∀ b o, b ≠ dx → hp.get? b = some o → h'.get? b = some o) → h'.Ns1 dx (fun y => if y = name then some v else m0 y) → R (.ok (.ret .none)) ⟨h', g, d, tk', os⟩) :
    codeAny (model prog w) A (.call (.builtin "object.__setattr__") ⟨[.ref x, .str name tk, v], []⟩) R ⟨hp, g, d, t, os⟩ := by
  obtain ⟨oD, esD, epD, hoD, hdD, _⟩ := hns.count hw
  obtain ⟨cd, hc, hd'⟩ := PySem.W.any_some hh
  have Lc : PySem.W.Looks (model prog w) hp (classData C) cd := PySem.W.looks_clsIn X hc
  refine PySem.W.osa_openX (s := ⟨hp, g, d, t, os⟩) (od := some oD) PySem.F.store_Exception X ⟨hx, rfl, rfl, hoD⟩ hov ha fun b => ?_
  obtain ⟨nm, bs, mro, ns, qn, hd, sn, sb, ab, col, del⟩ := cd
  dsimp only at hd'
  subst hd'
  unfold Builtin.ObjectAttr.storeInOwnDict Builtin.ObjectAttr.ownDictForStores
  repeat (first | with_reducible refine ESX.store_in_old hns hw hz ?_ | with_reducible refine wpAny_loadPart_at hx ?_ | with_reducible refine Lc.at ?_ | wp_step)
  exact fun h' tk' hn' hs => hq h' tk' (fun b o hb ho => (hs.2 b hb).trans ho) hn'
end
end PD
namespace PD
open PySem PySem.Spec L2
open PyProof.Rows hiding St
open PySem.W PySem.Calls PySem.HandSPX
/-- what the init leaves of the fresh exception at x -/
structure XEnd (h h' : Heap) (x C dx t1 : Addr) (m : Str → Option Value) : Prop where
  keep : ∀ b o, b ≠ x → h.get? b = some o → h'.get? b = some o
  obj : h'.get? x = some (PySem.HandSPX.excO C t1 |> fun o => { o with dict := some dx })
  dbig : h.objs.size ≤ dx
  dne : dx ≠ x
  ns : h'.Ns1 dx m
def InitOk (K : Frag) (C fI : Addr) (fs : List Str) : Prop :=
  ∀ {prog : Program} {w : World} {A : Around} {R : Result → Shared → Prop} {s : Shared} {x t0 : Addr} {vs : List Value}, vs.length = fs.length → K.In s.heap → s.heap.NoLimit → s.heap.get? x = some (PySem.HandSPX.excO C t0) → K.lookup x = none → A.depth < recursionLimit →
    (∀ h' tk dx, XEnd s.heap h' x C dx t0 (fun y => (fs.zip vs).lookup y) → R (.ok (.ret .none)) { s with heap := h', toks := tk }) → codeAny (model prog w) A (.call (.ref fI) ⟨.ref x :: vs, []⟩) R s
/-- what is known of an own class of exceptions -/
structure XCls (K : Frag) (mg : Str → Option Value) (x : Str) (C fI : Addr) (fs : List Str) : Prop where
  gC : mg x = some (.ref C)
  ini : excInitIn K C ESX.exTail "Exception.__new__" = true
  ovr : excOver K C ESX.exTail = true
  sa : findIn K (.ref C) "__setattr__" = some (some (.builtin "object.__setattr__"))
  xf : xfB K C = true
  no : ∀ n ∈ fs, findIn K (.ref C) n = some none
  iC : findIn K (.ref C) "__init__" = some (some (.ref fI))
  tI : typeIn K (.ref fI) = some (.type "function")
  kC : keepIn K (.ref C) = true
  tyC : typeIn K (.ref C) = some (.type "type")
  te : exmOne K (.ref C) (.ref C) = some true
  init : InitOk K C fI fs
theorem XCls.hd {K : Frag} {mg : Str → Option Value} {x : Str} {C fI : Addr} {fs : List Str} (T : XCls K mg x C fI fs) : hasDictIn K C = true := (xfB_ok T.xf).hdC
theorem XCls.ex {K : Frag} {mg : Str → Option Value} {x : Str} {C fI : Addr} {fs : List Str} (T : XCls K mg x C fI fs) : subIn K (.ref C) (.type "BaseException") = some true := (xfB_ok T.xf).exC
theorem takerNo {K : Frag} {C : Addr} {n : Str} (h : findIn K (.ref C) n = some none) : takerIn K C n = some none := by unfold takerIn; rw [h]; rfl
/-- a made exception -/
structure XMade (h h' : Heap) (e C d : Addr) (m : Str → Option Value) : Prop where
  keep : ∀ b o, h.get? b = some o → h'.get? b = some o
  new : h.objs.size ≤ e
  obj : ∃ oe vs, h'.get? e = some oe ∧ oe.cls = .ref C ∧ oe.dict = some d ∧ oe.data = .fields vs ∧ vs[1]? = some .none
  dbig : h.objs.size ≤ d
  dne : d ≠ e
  ns : h'.Ns1 d m
theorem x_made {prog : Program} {w : World} {A : Around} {R : Result → Shared → Prop} {s : Shared} {K : Frag} {mg : Str → Option Value} {x : Str} {C fI : Addr} {fs : List Str} (T : XCls K mg x C fI fs) {vs : List Value} (hl : vs.length = fs.length) (hsz : vs.length ≤ sizeLine)
    (X : K.In s.heap) (hlim : s.heap.NoLimit) (hroom : A.depth + 1 < recursionLimit)
    (hq : ∀ h' tk e d, XMade s.heap h' e C d (fun y => (fs.zip vs).lookup y) → R (.ok (.ret (.ref e))) { s with heap := h', toks := tk }) :
    codeAny (model prog w) A (.call (.ref C) ⟨vs, []⟩) R s := by
  obtain ⟨nm, N, qn, bs, bm, hdct, sn, sub, ab, col, dd, k0, k1, k2, k3, k5, hC, hT⟩ := excInit_of X T.ini
  obtain ⟨hp, g, dr, tk, os⟩ := s
  have kp : ∀ b o, hp.get? b = some o → ((hp.push (kdv_tup vs)).push (excO C hp.objs.size)).get? b = some o := fun b o e => Heap.get?_push_of_some _ (Heap.get?_push_of_some _ e)
  have hget : ((hp.push (kdv_tup vs)).push (excO C hp.objs.size)).get? (hp.objs.size + 1) = some (excO C hp.objs.size) := by heap_get
  have hnx : K.lookup (hp.objs.size + 1) = none := by
    cases q : K.lookup (hp.objs.size + 1) with
    | none => rfl
    | some o =>
      have z : hp.get? (hp.objs.size + 1) = some o := X _ _ q
      exact absurd (Nat.lt_of_succ_lt (Heap.lt_size z)) (Nat.lt_irrefl _)
  refine call_own PySem.F.excBase_Exception hT hC (looks_findIn X T.iC) (fun self => bind_fn X self T.tI) hsz ?_
  refine T.init (s := ⟨(hp.push (kdv_tup vs)).push (excO C hp.objs.size), g, dr, tk, os⟩) hl (X.keeps kp) (hlim.keeps kp) hget hnx hroom fun h' tk' dx D => ?_
  have z : hp.objs.size + 1 + 1 ≤ dx := by
    have q := D.dbig
    dsimp only at q
    rw [Heap.size_push, Heap.size_push] at q
    exact q
  exact ⟨rfl, hq h' tk' (hp.objs.size + 1) dx ⟨fun b o q => D.keep b o (Nat.ne_of_lt (Nat.lt_succ_of_lt (Heap.lt_size q))) (kp b o q), Nat.le_succ _, ⟨_, _, D.obj, rfl, rfl, rfl, rfl⟩, Nat.le_trans (Nat.le_trans (Nat.le_succ _) (Nat.le_succ _)) z, D.dne, D.ns⟩⟩
theorem relO_zip : ∀ {vs : List V} {us : List Value} (fs : List Str) (f : Str), Vals vs us → RelO ((fs.zip vs).lookup f) ((fs.zip us).lookup f) := by
  intro vs us fs f h
  induction fs generalizing vs us with
  | nil => trivial
  | cons n fs ih =>
    cases h with
    | nil => trivial
    | cons h1 h2 =>
      rw [List.zip_cons_cons, List.zip_cons_cons]
      cases q : f == n with
      | true =>
        simp only [List.lookup, q]
        exact h1
      | false =>
        simp only [List.lookup, q]
        exact ih h2
section
variable {X : Cx} {C fI : Addr} {x : Str} {fs : List Str}
/-- C(..) of an own class of exceptions -/
def tMkX (C : Addr) (fs : List Str) (ta : TA) : L2.St → Hp → XK → Prop := fun σ H Q => ta σ H fun vs H1 => vs.length = fs.length ∧ vs.length ≤ sizeLine ∧ ∀ d, H1 d = none → Q (.ref C) (some d) (upd H1 d (.xd (fs.zip vs)))
theorem pmk_x {e : Expr} {es : List Expr} {ta : TA} {p pos : Pos} {k : Nat} (T : XCls X.K X.mg x C fI fs) (hr : Room k X.A) (ha : PA X (e :: es) ta) (hg : Gl X x := by rfl)
    (hdb : (x == ("__debug__" : Str)) = false := by decide) (he : starEach (e :: es) X.env = (false, eval e X.env) :: starEach es X.env := by rfl) (hpl : (backTo pos (starEach es X.env)).any (·.1) = false := by rfl) :
    PMk X (.Call (.Name x p) (e :: es) [] pos) (tMkX C fs ta) := by
  intro pins s σ H Q I h
  refine wpAny_Call_Name_kw (ld_glob I hg T.gC ?_ hdb)
  refine callWith_K (h₀ := X.base) I.ok.mod.kin T.kC (thn (ha.run pos pins s σ H _ I h) fun us s1 hh => ?_) he hpl
  obtain ⟨vs, H1, I1, r1, hl, hsz, q1⟩ := hh
  refine ⟨I1.kIn, ?_⟩
  have hlu : us.length = vs.length := r1.length.symm
  have hlim := I1.nolimit
  obtain ⟨hp, g, dr, tk, os⟩ := s1
  refine wpAny_call (x_made T (vs := us) (by rw [hlu]; exact hl) (by rw [hlu]; exact hsz) I1.kIn hlim (by have := hr.dp; omega) fun h' tk' e d M => ?_)
  show MkP X pins σ Q (.ref e) ⟨h', g, dr, tk', os⟩
  obtain ⟨oe, fv, hoe, hc, hd, hdat, h1⟩ := M.obj
  have hns := M.ns
  obtain ⟨G', g1, g2⟩ := restrict h' fun b => decide (b ≠ e)
  have gk : ∀ b, b ≠ e → G'.get? b = h'.get? b := fun b hb => g1 b (decide_eq_true hb)
  have ge : G'.get? e = none := g2 e (by simp)
  have old : ∀ b o, hp.get? b = some o → G'.get? b = some o := fun b o q => (gk b (Nat.ne_of_lt (Nat.lt_of_lt_of_le (Heap.lt_size q) M.new))).trans (M.keep b o q)
  have ob : ObjOk X.prog X.w (upd H1 d (.xd (fs.zip vs))) G' d (.xd (fs.zip vs)) :=
    ⟨_, hns.at (fun o q => (gk d M.dne).trans q), fun f => relO_zip fs f r1⟩
  have J : Inv X pins σ (upd H1 d (.xd (fs.zip vs))) ⟨G', g, dr, tk', os⟩ := I1.laid (t' := tk') old M.dbig ob
  refine ⟨e, oe, fv, ⟨G', g, dr, tk', os⟩, _, .ref C, some d, rfl, J, fun b o q => ?_, ge, hoe, ⟨hc, hd⟩, hdat, h1, ?_, rfl, I1.bare, raises_own T.ex T.tyC, q1 d (I1.hok.fresh M.dbig)⟩
  · by_cases hb : b = e
    · have q' : G'.get? b = some o := q
      rw [hb, ge] at q'; cases q'
    · exact (gk b hb).symm.trans q
  · rw [upd_ne (Ne.symm M.dne)]
    exact I1.hok.fresh M.new
/-! ### raise -/
def sRaise (k n : Nat) (f : FA) : FO := fun s => (f s).stm fun ds s => if ds.length = n then .exc k ds s else .bad
theorem lookups : ∀ {fs : List Str} {vs : List V}, fs.Nodup → vs.length = fs.length → fs.map (fun n => (fs.zip vs).lookup n) = vs.map some
  | [], [], _, _ => rfl
  | [], _ :: _, _, h => by cases h
  | _ :: _, [], _, h => by cases h
  | n :: fs, v :: vs, hn, h => by
    obtain ⟨h1, h2⟩ := List.nodup_cons.mp hn
    have ih := lookups (fs := fs) (vs := vs) h2 (Nat.succ.inj h)
    rw [List.map_cons, List.map_cons, ← ih]
    congr 1
    · simp [List.lookup]
    · apply List.map_congr_left
      intro m hm
      have z : (m == n) = false := by
        have : m ≠ n := fun e => h1 (e ▸ hm)
        simpa using this
      rw [List.zip_cons_cons, List.lookup_cons, z]
theorem kRaise {ex : ExT} {W : WX} {e : Expr} {es : List Expr} {f : FA} {p pos pos2 : Pos} {kr k n : Nat} (hc : X.calm = true) (tk : Takes X W) (T : XCls X.K X.mg x C fI fs) (hex : ex k = some (C, fs)) (hn : fs.length = n) (hnd : fs.Nodup) (hns : n ≤ sizeLine) (hr : Room kr X.A)
    (ha : PA X (e :: es) (tA X.K ex W f)) (hg : Gl X x := by rfl)
    (hdb : (x == ("__debug__" : Str)) = false := by decide) (he : starEach (e :: es) X.env = (false, eval e X.env) :: starEach es X.env := by rfl) (hpl : (backTo pos (starEach es X.env)).any (·.1) = false := by rfl) :
    PS X (.Raise (some (.Call (.Name x p) (e :: es) [] pos)) none pos2) (tS X.K ex W (sRaise k n f)) := by
  refine PS.imp (ps_raise hc tk (pmk_x T hr ha hg hdb he hpl)) fun En σ H ⟨c, G, s, r, h⟩ => ?_
  show tA X.K ex W f σ H _
  refine soA r h fun ds s1 G1 H1 vs e1 r1 hv h1 => ?_
  split at h1
  case isTrue hl =>
    have hvl := hv.len
    refine ⟨by omega, by omega, fun d hd => ?_⟩
    refine h1 (.ref C) (some d) σ G1 (upd H1 d (.xd (fs.zip vs))) (Same.refl _) (r1.allocOwn hd) ⟨C, fs, d, fs.zip vs, vs, hex, rfl, rfl, upd_same, lookups hnd (by omega), hv⟩
  case isFalse => exact h1.elim
end
end PD
namespace PD
open PySem PySem.Spec L2
open PyProof.Rows hiding St
/-! ### try .. except X as n: return e -/
/-- a slot is emptied or taken by what the state does not tell of -/
theorem Rel.over {K : PySem.W.Frag} {c : Act} {G H : Hp} {σ : L2.St} {s : S} (r : Rel K c G H σ s) (i : Nat) (x : Option V) : Rel K c G H (σ.set i x) (s.drop i) := by
  have hl := r.len
  have key : ∀ (j : Nat) e, (s.ρ.set i none)[j]? = some (some e) → i ≠ j ∧ s.ρ[j]? = some (some e) := fun j e q => by
    by_cases h : i = j
    · subst h
      by_cases hl : i < s.ρ.length
      · rw [List.getElem?_set_self hl] at q
        cases q
      · rw [List.set_eq_of_length_le (by omega), List.getElem?_eq_none (by omega)] at q
        cases q
    · exact ⟨h, by rwa [List.getElem?_set_ne h] at q⟩
  refine ⟨r.b, by simpa using r.len, fun j e q => ?_, fun i' j v n ⟨e1, h1, b1⟩ ⟨e2, h2, b2⟩ => ?_⟩
  · obtain ⟨n, q⟩ := key j e q
    obtain ⟨v, hv, he⟩ := r.slot j e q
    exact ⟨v, by rw [List.getElem?_set_ne n]; exact hv, he⟩
  · obtain ⟨n1, q1⟩ := key _ _ h1
    obtain ⟨n2, q2⟩ := key _ _ h2
    rw [List.getElem?_set_ne n1, List.getElem?_set_ne n2]
    exact r.sep i' j v n ⟨e1, q1, b1⟩ ⟨e2, q2, b2⟩
def HV (K : PySem.W.Frag) (ex : ExT) (k i : Nat) (te : Addr → Value → Option Addr → TE) (g : List D → D) : Prop :=
  ∀ {c : Act} {G : Hp} {σ : L2.St} {H : Hp} {s : S} {as : List D} {cls : Value} {dx : Option Addr} {a : Addr} {Q : VK}, Rel K c G H σ s → i < σ.length → σ[i]? = some (some (.ref a)) → ExcIs K ex k as cls dx G H →
    (∀ v G' H', Same G G' → Rel K c G' H' σ s → ExcIs K ex k as cls dx G' H' → Dp K G' v (g as) → Q v H') → te a cls dx σ H Q
def HVA (K : PySem.W.Frag) (ex : ExT) (k i : Nat) (te : Addr → Value → Option Addr → TA) (g : List D → List D) : Prop :=
  ∀ {c : Act} {G : Hp} {σ : L2.St} {H : Hp} {s : S} {as : List D} {cls : Value} {dx : Option Addr} {a : Addr} {Q : List V → Hp → Prop}, Rel K c G H σ s → i < σ.length → σ[i]? = some (some (.ref a)) → ExcIs K ex k as cls dx G H →
    (∀ vs G' H', Same G G' → Rel K c G' H' σ s → ExcIs K ex k as cls dx G' H' → DpAll K G' vs (g as) → Q vs H') → te a cls dx σ H Q
def fldD (j : Nat) (as : List D) : D := (as[j]?).getD .none
section
variable {K : PySem.W.Frag} {ex : ExT} {k i : Nat} {C : Addr} {fs : List Str}
theorem hv_fld {f : Str} {j : Nat} (hex : ex k = some (C, fs)) (hj : fs[j]? = some f) : HV K ex k i (fun a cls d => tXf a cls d C f (tVar i)) (fldD j) := by
  intro c G σ H s as cls dx a Q r _ ha E hQ
  obtain ⟨C', names, d, fl, vs, e1, e2, e3, e4, e5, e6⟩ := id E
  rw [hex] at e1
  cases e1
  have q : (fs.map fun n => fl.lookup n)[j]? = (vs.map some)[j]? := by rw [e5]
  rw [List.getElem?_map, hj, List.getElem?_map] at q
  cases hv : vs[j]? with
  | none => rw [hv] at q; cases q
  | some v =>
    rw [hv] at q
    have q2 : fl.lookup f = some v := by simpa using q
    obtain ⟨d2, h1, h2⟩ := e6.getV hv
    refine ⟨_, ha, rfl, e2, d, fl, v, e3, e4, q2, hQ v G H (Same.refl _) r E ?_⟩
    unfold fldD
    rw [h1]
    exact h2
theorem hv_c {v : V} {d : D} (h : ∀ G, Dp K G v d) : HV K ex k i (fun _ _ _ => tC v) (fun _ => d) := fun r _ _ E hQ => hQ v _ _ (Same.refl _) r E (h _)
theorem hva_nil : HVA K ex k i (fun _ _ _ => tNil) (fun _ => []) := fun r _ _ E hQ => hQ [] _ _ (Same.refl _) r E .nil
theorem hva_cons {te : Addr → Value → Option Addr → TE} {ta : Addr → Value → Option Addr → TA} {g : List D → D} {ga : List D → List D} (h : HV K ex k i te g) (h2 : HVA K ex k i ta ga) : HVA K ex k i (fun a cls d => tCons (te a cls d) (ta a cls d)) (fun as => g as :: ga as) := by
  intro c G σ H s as cls dx a Q r hl ha E hQ
  exact h r hl ha E fun v G1 H1 e1 r1 E1 hv => h2 r1 hl ha E1 fun vs G2 H2 e2 r2 E2 hvs => hQ _ G2 H2 (e1.trans e2) r2 E2 (.cons (hv.up e2) hvs)
theorem ExcIs.up {as : List D} {cls : Value} {dx : Option Addr} {G H G' H' : Hp} (E : ExcIs K ex k as cls dx G H) (hG : Same G G') (hH : ∀ d o, H d = some o → H' d = some o) : ExcIs K ex k as cls dx G' H' := by
  obtain ⟨C', names, d, fl, vs, e1, e2, e3, e4, e5, e6⟩ := E
  exact ⟨C', names, d, fl, vs, e1, e2, e3, hH _ _ e4, e5, e6.up hG⟩
theorem hv_tup {ta : Addr → Value → Option Addr → TA} {ga : List D → List D} (h : HVA K ex k i ta ga) (hn : ∀ as, (ga as).length ≤ sizeLine) : HV K ex k i (fun a cls d => tTup (ta a cls d)) (fun as => .tuple (ga as)) := by
  intro c G σ H s as cls dx a Q r hl ha E hQ
  exact h r hl ha E fun vs G1 H1 e1 r1 E1 hvs => ⟨by rw [hvs.len]; exact hn as, fun p hp => by
    obtain ⟨q1, q2, q3⟩ := r1.newTup hp hvs
    exact hQ _ _ _ (e1.trans q1) q2 (E1.up q1 fun d o e => by rw [upd_ne (ne_of_none e hp)]; exact e) q3⟩
end
/-- body, else what is made of the fields of the exception of kind k -/
def sTryF (k i : Nat) (fb : FO) (g : List D → D) : FO := fun s => match fb s with
  | .exc k' as s' => if k' = k ∧ i < s'.ρ.length then .rt (g as) (s'.drop i) else .bad
  | o => o
section
variable {X : Cx} {ex : ExT} {Wout : WX} {x n : Str} {C fI : Addr} {fs : List Str} {k i : Nat} {body : List Stmt} {e : Expr} {fb : FO} {g : List D → D} {te : Addr → Value → Option Addr → TE} {np rp pos pos' : Pos}
theorem kTryF (hs : X.stack = X.env :: X.outer) (hf : X.env.frame = some X.env.locals) (hN : X.N.Nodup) (hi : X.N[i]? = some n) (hln : X.env.kindOf n = some .local) (T : XCls X.K X.mg x C fI fs) (hex : ex k = some (C, fs)) (tk : Takes X Wout)
    (hb : ∀ (W : WX) (pn : List (Addr × Obj)) (xe : Value → Shared → Prop), Takes (X.tr pn xe) W → PSs (X.tr pn xe) body (tS X.K ex W fb))
    (hsu : ∀ (a : Addr) (oe : Obj) (cls : Value) (d : Option Addr) (pn : List (Addr × Obj)), Zc cls d oe → (∃ vs, oe.data = .fields vs) → PE (X.suite a ((a, oe) :: pn)) e (te a cls d))
    (hv : HV X.K ex k i te g) (hg : Gl X x := by rfl) (hdb : (x == ("__debug__" : Str)) = false := by decide) :
    PS X (.Try body [.ExceptHandler (some (.Name x np)) (some n) [.Return (some e) rp] pos'] [] [] pos) (tS X.K ex Wout (sTryF k i fb g)) := by
  refine PS.imp (ps_try_as (tb := fun W => tS X.K ex W fb) (ts := fun a cls d => tRet (te a cls d)) (Wout := Wout) hs hf hN hi hln ⟨hg, hdb, .inl T.gC⟩ tk (fun W pn xe tk' _ => hb W pn xe tk') (fun a oe cls d pn hz hf' => pss_one (ps_ret (hsu a oe cls d pn hz hf')))) fun En σ H ⟨c, G, s, r, h⟩ => ?_
  refine ⟨c, G, s, r, ?_⟩
  unfold sTryF at h
  cases hfb : fb s with
  | nx s' => rw [hfb] at h; exact h
  | rt d s' => rw [hfb] at h; exact h
  | bk s' => rw [hfb] at h; exact h
  | ct s' => rw [hfb] at h; exact h
  | bad => rw [hfb] at h; exact h.elim
  | exc k' as s' =>
    rw [hfb] at h
    dsimp only at h
    split at h
    case isFalse => exact h.elim
    case isTrue hk =>
      obtain ⟨rfl, hl⟩ := hk
      intro cls dx σ' G' H' eG r' E
      have hcls : cls = .ref C := by
        obtain ⟨C', names, d, fl, vs, e1, e2, e3, e4, e5, e6⟩ := E
        rw [hex] at e1
        cases e1
        exact e2
      subst hcls
      refine ⟨true, T.te, fun _ a ha => ?_, fun q => nomatch q⟩
      have r2 := r'.over i (some (.ref a))
      have hl' : i < σ'.length := by rw [← r'.len]; exact hl
      refine hv r2 (by rw [List.length_set]; exact hl') (List.getElem?_set_self hl') E fun v G2 H2 e2 r3 _ hd => ?_
      exact h v _ G2 H2 (eG.trans e2) r3 hd
end
end PD
namespace PD
open PySem PySem.Spec L2
open PyProof.Rows hiding St
/-- a local of a def of the class is read -/
theorem ldX {M : Model} {s : Shared} {name : Str} {scope : Scope} {L a : Addr} {cd : Value} {m : Str → Option Value} {x : Str} {pos : Pos} {v : Value} {Q : Value → Shared → Prop} {A : Around} {E : Value → Shared → Prop} (hn : s.heap.Ns L m) (hv : m x = some v) (h : Q v s)
    (hk : scope.kind = .function := by rfl) (hl : (PyProof.Rows.envOfC name scope L a cd).kindOf x = some .local := by rfl) (hd : (x == ("__debug__" : Str)) = false := by decide) :
    wpAny M A (eval (.Name x pos) (PyProof.Rows.envOfC name scope L a cd)) Q E s := wpAny_Name (wpAny_loadName_local hk hl hn hv h) hd
end PD
namespace PD
open PySem PySem.Spec L2
open PyProof.Rows hiding St
theorem xf_mk {K : PySem.W.Frag} {C : Addr} (h1 : PySem.W.findIn K (.ref C) "__getattribute__" = some (some (.builtin "BaseException.__getattribute__"))) (h2 : PySem.W.findIn K (.ref C) "__getattr__" = some none)
    (h3 : PySem.W.subIn K (.ref C) (.type "BaseException") = some true) (h4 : PySem.W.hasDictIn K C = true) : xfB K C = true := by
  unfold xfB
  rw [decide_eq_true h1, decide_eq_true h2, decide_eq_true h3, h4]
  rfl
/-- what «except S» names -/
theorem te_mk {K : PySem.W.Frag} {S : Addr} (h1 : PySem.W.subIn K (.ref S) (.type "BaseException") = some true) (h2 : PySem.W.isClsIn K S = true) (h3 : PySem.W.typeIn K (.ref S) = some (.type "type")) (h4 : PySem.W.subIn K (.ref S) (.ref S) = some true) :
    PySem.W.exmOne K (.ref S) (.ref S) = some true := by
  have a : (PySem.W.subIn K (.ref S) (.type "BaseException") == some true) = true := by rw [h1]; rfl
  have b : ((PySem.W.clsIn K S).isSome && PySem.W.typeIn K (.ref S) == some (.type "type")) = true := by
    have z : (PySem.W.clsIn K S).isSome = true := h2
    rw [z, h3]; rfl
  show (if (PySem.W.subIn K (.ref S) (.type "BaseException") == some true) = true then (if ((PySem.W.clsIn K S).isSome && PySem.W.typeIn K (.ref S) == some (.type "type")) = true then PySem.W.subIn K (.ref S) (.ref S) else none) else none) = some true
  rw [if_pos a, if_pos b, h4]
end PD
/-! PD12: enumerate over lists and tuples, with a start or without; zip; isinstance. -/
namespace PD
open PySem PySem.Spec L2
open PyProof.Rows hiding St
/-! ### enumerate(v) of anything that begins -/
section
open Sem (wp)
open AutoSeq1 (wpAny_loadPart')
abbrev enObj (it : Addr) (k : Int) : Obj := { cls := .type "enumerate", data := .fields #[.none, .bool false, .ref it, rawInt k, .none, .none] }
set_option maxHeartbeats 1000000 in
theorem enumMeets1 {v : Value} {ob : Obj} {Hs : Heap → Prop} (B : Begins v ob Hs) :
    Meets (Builtin.«enumerate.__new__» ⟨[.type "enumerate", v], []⟩) (fun _ R s => Hs s.heap ∧ R (.ok (.ret (.ref (s.heap.push ob).objs.size))) { s with heap := (s.heap.push ob).push (enObj s.heap.objs.size 0) }) :=
  .of_wp fun prog w A R s hh => by
    obtain ⟨hp, g, d, tk, os⟩ := s
    obtain ⟨hb, hh⟩ := hh
    have se := sub_enumerate
    have it1 : ∀ {A1 : Around} {E1 : Value → Shared → Prop} {Q1 : Value → Shared → Prop}, Q1 (.ref hp.objs.size) ⟨hp.push ob, g, d, tk, os⟩ → wpAny (model prog w) A1 (pyIter v) Q1 E1 ⟨hp, g, d, tk, os⟩ := fun q => B.iter prog w _ _ _ _ hb q
    wp_walk using it1
    refine wpAny_stack_any fun below => wpAny_pure ?_
    split
    · rename_i cl _ _ _ _ _
      cases (cl == Value.type "enumerate") <;> (wp_walk using it1; exact ⟨_, rfl, hh⟩)
    · wp_walk using it1
      exact ⟨_, rfl, hh⟩
variable {prog : Program} {w : World} {A : Around} {E : Value → Shared → Prop} {s : Shared}
theorem enumCall1 {v : Value} {ob : Obj} {Hs : Heap → Prop} {Q : Value → Shared → Prop} (B : Begins v ob Hs) (h1 : Hs s.heap)
    (h : ∀ h', IsEnum h' (s.heap.objs.size + 1) s.heap.objs.size 0 .none → h'.get? s.heap.objs.size = some ob → h'.objs.size = s.heap.objs.size + 2 →
      (∀ b o, s.heap.get? b = some o → h'.get? b = some o) → Q (.ref (s.heap.objs.size + 1)) { s with heap := h' }) :
    wpAny (model prog w) A (call (.type "enumerate") [v]) Q E s := by
  refine callType_new F.called_enumerate (by decide) (F.typeCall_enumerate_1 _) (F.newCall_enumerate_1 _) (fun o => F.args_object_init_2 o _) F.entry_enumerate_new (enumMeets1 B) ⟨h1, ?_⟩
  have sz : (s.heap.push ob).objs.size = s.heap.objs.size + 1 := Heap.size_push ..
  have he : ((s.heap.push ob).push (enObj s.heap.objs.size 0)).get? (s.heap.objs.size + 1) = some (enObj s.heap.objs.size 0) := by
    have z := Heap.get?_push_size (s.heap.push ob) (o := enObj s.heap.objs.size 0) rfl
    rw [sz] at z
    exact z
  show _ ∧ _
  rw [sz]
  refine ⟨⟨_, he, rfl⟩, h _ he ?_ ?_ fun b o e => Heap.get?_push_of_some _ (Heap.get?_push_of_some _ e)⟩
  · exact Heap.get?_push_of_some _ (Heap.get?_push_size _ B.free)
  · rw [Heap.size_push, sz]
end
end PD
namespace PD
open PySem PySem.Spec L2
open PyProof.Rows hiding St
/-- a sequence at a, its iterators -/
structure SeqK (P : Program) (w : World) (K : PySem.W.Frag) (a : Addr) (Sq : Hp → List V → Prop) (isIt : Heap → Addr → Nat → Prop) (isX : Heap → Array Value → Prop) : Prop where
  get : ∀ {X : Cx} {pins : List (Addr × Obj)} {σ : L2.St} {H : Hp} {s : Shared} {xs : List V}, X.prog = P → X.w = w → X.K = K → Inv X pins σ H s → Sq H xs → ∃ its : List Value, Vals xs its ∧ isX s.heap its.toArray
  inj : ∀ {X : Cx} {pins : List (Addr × Obj)} {σ : L2.St} {H : Hp} {s : Shared} {xs ys : List V}, X.prog = P → X.w = w → X.K = K → Inv X pins σ H s → Sq H xs → Sq H ys → xs = ys
  draws : ∀ {A : Around} (it : Addr), A.handled = none → a ≠ it → ∀ items : Array Value, Draws P w A it [it, a] items.size (fun i v => items[i]? = some v) (fun i h => isIt h it i ∧ isX h items)
  objX : ∀ {h : Heap} {items : Array Value}, isX h items → ∃ o n, h.get? a = some o ∧ o.cls = .type n ∧ n ≠ "enumerate"
  keepI : ∀ {h h' : Heap} {it : Addr} {i : Nat}, isIt h it i → (∀ o, h.get? it = some o → h'.get? it = some o) → isIt h' it i
  objI : ∀ {h : Heap} {it : Addr} {i : Nat}, isIt h it i → ∃ o, h.get? it = some o ∧ ∀ v, o.data ≠ .cell v
  apart : ∀ {h : Heap} {it : Addr} {i : Nat} {items : Array Value}, isIt h it i → isX h items → a ≠ it
theorem seqK_list {P : Program} {w : World} {K : PySem.W.Frag} {a : Addr} : SeqK P w K a (fun H xs => SqL K H a xs) (fun h it i => h.IsListIter it a i) (fun h items => h.IsList a items) where
  get := fun hP hw hK I q => by
    subst hP hw hK
    obtain ⟨its, rv, p, _⟩ := I.list q
    exact ⟨its, rv, p.isList⟩
  inj := fun hP hw hK I q q' => by
    subst hP hw hK
    exact I.list_inj q q'
  draws := fun it hh hne items => Draws.list hh it a hne items
  objX := fun ⟨o, e, c, _⟩ => ⟨o, _, e, c, by decide⟩
  keepI := fun h k => h.at fun o e => k o e
  objI := fun ⟨o, e, _, d⟩ => ⟨o, e, fun v q => by rw [d] at q; cases q⟩
  apart := fun ⟨o, e, c, _⟩ ⟨o', e', c', _⟩ q => by
    rw [q, e] at e'
    cases e'
    rw [c] at c'
    injection c' with c'
    exact absurd c' (by decide)
theorem seqK_tup {P : Program} {w : World} {K : PySem.W.Frag} {a : Addr} : SeqK P w K a (fun H xs => SqT K H a xs) (fun h it i => h.IsTupleIter it a i) (fun h items => h.IsTuple a items) where
  get := fun hP hw hK I q => by
    subst hP hw hK
    obtain ⟨its, rv, p, _⟩ := I.tuple q
    exact ⟨its, rv, p⟩
  inj := fun hP hw hK I q q' => by
    subst hP hw hK
    exact I.tuple_inj q q'
  draws := fun it hh hne items => Draws.tuple hh it a hne items
  objX := fun ⟨o, e, c, _⟩ => ⟨o, _, e, c, by decide⟩
  keepI := fun h k => h.at fun o e => k o e
  objI := fun ⟨o, e, _, d⟩ => ⟨o, e, fun v q => by rw [d] at q; cases q⟩
  apart := fun ⟨o, e, c, _⟩ ⟨o', e', c', _⟩ q => by
    rw [q, e] at e'
    cases e'
    rw [c] at c'
    injection c' with c'
    exact absurd c' (by decide)
/-- the sequence as it stands, numbered from k, the pairs new -/
def ItEn (Sq : Hp → List V → Prop) (k : Int) : It :=
  ⟨fun i H => ∃ xs x, Sq H xs ∧ xs[i]? = some x,
    fun i H v H' => ∃ T x, v = .ref T ∧ H T = none ∧ H' = upd H T (.tup [.int (k + (i : Int)), x]) ∧ ∀ xs, Sq H xs → xs[i]? = some x,
    fun i H => ∃ xs, Sq H xs ∧ xs.length = i⟩
theorem turn_en {P : Program} {w : World} {K : PySem.W.Frag} {elts : List Expr} {kk : Nat} {tpos : Pos} {a e it : Addr} {Sq : Hp → List V → Prop} {isIt : Heap → Addr → Nat → Prop} {isX : Heap → Array Value → Prop} (k : Int) (Z : SeqK P w K a Sq isIt isX) :
    Turn P w K (.Tuple elts kk tpos) (ItEn Sq k) [e, it] e (fun i h => (∃ old, IsEnum h e it (k + (i : Int)) old) ∧ isIt h it i ∧ e ≠ it) where
  mem := List.mem_cons_self
  obj := fun i h ⟨⟨old, he⟩, hi, _⟩ b hb => by
    rcases List.mem_cons.mp hb with rfl | hb
    · exact ⟨_, he, fun v q => nomatch q⟩
    · rw [List.mem_singleton.mp hb]
      exact Z.objI hi
  keep := fun i h h' ⟨⟨old, he⟩, hi, hne⟩ kp => ⟨⟨old, kp e (by simp) _ he⟩, Z.keepI hi fun o q => kp it (by simp) o q, hne⟩
  item := by
    intro X hP hw hK hc i pins s σ H E I hf ⟨⟨old, he⟩, hi, hne⟩ ⟨xs, x, hq, hx⟩
    obtain ⟨its, rv, p⟩ := Z.get hP hw hK I hq
    obtain ⟨u, hu, ru⟩ := rv.get hx
    have hel : e < s.heap.objs.size := Heap.lt_size he
    have hil : it < s.heap.objs.size := by obtain ⟨_, q, _⟩ := Z.objI hi; exact Heap.lt_size q
    have hea : e ≠ a := fun q => by
      obtain ⟨o, n, e1, c1, n1⟩ := Z.objX p
      rw [← q, he] at e1
      cases e1
      cases c1
      exact n1 rfl
    have hlt : i < its.toArray.size := by
      rw [List.size_toArray]
      exact (List.getElem?_eq_some_iff.mp hu).1
    have D := Z.draws (A := X.A.in1) it (show X.A.in1.handled = none from I.ok.hd hc) (Z.apart hi p) its.toArray
    refine wpAny_pyNext_enum_itemC (c := k + (i : Int)) D he ⟨hi, p⟩ hlt hne (by simp [hne, hea]) fun y h' tk hy ho hs' hT hsz hk => ?_
    have hyu : y = u := by
      have hy : its.toArray[i]? = some y := hy
      rw [List.getElem?_toArray, hu] at hy
      exact (Option.some.inj hy).symm
    subst hyu
    refine ⟨_, rfl, wpAny_letOwnedTupleGo_enum (s := { s with heap := h', toks := tk + 1 }) ho fun h'' he' sb => ?_⟩
    have hT2 : h''.get? s.heap.objs.size = some { cls := .type "tuple", data := .seq #[.int (k + (i : Int)) tk, y] } := (sb.2 _ (Nat.ne_of_gt hel)).trans hT
    have nw : ObjOk X.prog X.w (upd H s.heap.objs.size (.tup [.int (k + (i : Int)), x])) h'' s.heap.objs.size (.tup [.int (k + (i : Int)), x]) :=
      ⟨by show 2 ≤ sizeLine; decide, [.int (k + (i : Int)) tk, y], .cons ⟨_, rfl⟩ (.cons ru .nil), ⟨_, hT2, rfl, _, rfl⟩⟩
    have I1 : Inv X pins σ (upd H s.heap.objs.size (.tup [.int (k + (i : Int)), x])) { s with heap := h'', toks := tk + 1 } :=
      I.turnedNew (ch := [e, it]) (fun b ob hb q => (sb.2 b (fun z => hb (by simp [z]))).trans (hk b ob (fun z => hb (by simp [z])) (fun z => hb (by simp [z])) q)) hf (Nat.le_refl _) nw
    refine ⟨.ref s.heap.objs.size, _, I1, rfl, ⟨_, x, rfl, I.hok.fresh (Nat.le_refl _), rfl, fun ys hys => by rw [Z.inj hP hw hK I hys hq]; exact hx⟩, ⟨⟨y, ?_⟩, Z.keepI hs'.1 fun o q => (sb.2 it (Ne.symm hne)).trans q, hne⟩, fun b hb => ?_⟩
    · have e1 : k + ((i + 1 : Nat) : Int) = k + (i : Int) + 1 := by omega
      rw [e1]
      exact he'
    · have hb' : b < s.heap.objs.size := by
        rcases List.mem_cons.mp hb with rfl | hb
        · exact hel
        · rw [List.mem_singleton.mp hb]; exact hil
      rw [upd_ne (Nat.ne_of_lt hb')]
      exact (hf b hb).1
  done := by
    intro X hP hw hK hc i pins s σ H E I hf ⟨⟨old, he⟩, hi, hne⟩ ⟨xs, hq, hx⟩
    subst hP hw hK
    obtain ⟨its, rv, p⟩ := Z.get rfl rfl rfl I hq
    obtain ⟨f0, f1, f2, f3, f4, f5⟩ := hf it (by simp)
    have hl := rv.length
    have D := Z.draws (A := X.A.in1) it (show X.A.in1.handled = none from I.ok.hd hc) (Z.apart hi p) its.toArray
    have hn : its.toArray.size = i := by rw [List.size_toArray]; omega
    exact wpAny_pyNext_enum_endD D he (by rw [hn]; exact ⟨hi, p⟩) fun h' eb => ⟨rfl, I.turned (t' := s.toks) (fun b o hb q => eb b o hb q) f0 f1 f3 f4 f5⟩
  self := fun A i s Q E ⟨⟨_, he⟩, _⟩ h => wpAny_pyIter_enum he h
end PD
namespace PD
open PySem PySem.Spec L2
open PyProof.Rows hiding St
theorem walk_en {Sq : Hp → List V → Prop} {k : Int} {xs : List V} : Walk (ItEn Sq k) xs.length (fun H => Sq H xs) (YPair (fun i => some (.int (k + (i : Int)))) (fun i => xs[i]?)) := by
  refine ⟨fun i _ hi q => ⟨xs, xs[i], q, by simp [hi]⟩, fun _ q => ⟨xs, q, rfl⟩, fun i H v H' _ q y => ?_⟩
  obtain ⟨T, x, h1, h2, h3, h4⟩ := y
  exact ⟨T, .int (k + (i : Int)), x, h1, h2, h3, rfl, h4 xs q⟩
def enumFrom (k : Int) : List D → List D
  | [] => []
  | d :: ds => .tuple [.int k, d] :: enumFrom (k + 1) ds
theorem enumFrom_len : ∀ (ds : List D) (k : Int), (enumFrom k ds).length = ds.length
  | [], _ => rfl
  | _ :: ds, k => by rw [enumFrom, List.length_cons, List.length_cons, enumFrom_len ds]
theorem enumFrom_get : ∀ (ds : List D) (k : Int) (i : Nat) (d : D), ds[i]? = some d → (enumFrom k ds)[i]? = some (.tuple [.int (k + (i : Int)), d])
  | [], _, _, _, h => by cases h
  | d :: ds, k, 0, d', h => by
    cases h
    simp [enumFrom]
  | _ :: ds, k, i + 1, d', h => by
    have z := enumFrom_get ds (k + 1) i d' h
    rw [enumFrom, List.getElem?_cons_succ, z]
    congr 4
    omega
theorem wkEn {K : PySem.W.Frag} {G : Hp} {Sq : Hp → List V → Prop} {xs : List V} {ds : List D} {k : Int} (mono : ∀ {H H' : Hp}, Same H H' → Sq H xs → Sq H' xs) (h : Sq G xs) (hd : DpAll K G xs ds) : WkD K G (ItEn Sq k) (enumFrom k ds) := by
  have w : Walk (ItEn Sq k) xs.length (fun H => Sq H xs) (YPair (fun i => some (.int (k + (i : Int)))) (fun i => xs[i]?)) := walk_en
  unfold WkD
  rw [enumFrom_len, ← hd.len]
  refine Walk.mono w (fun H ⟨G', e, e'⟩ => mono (e.trans e') h) fun i H v H' hi _ y c G' σ s eG r => ?_
  obtain ⟨T, x, y', h1, h2, h3, h4, h5⟩ := y
  subst h1
  subst h3
  cases h4
  obtain ⟨d, q1, q2⟩ := hd.getV h5
  obtain ⟨e2, r2, d2⟩ := r.newTup (vs := [.int (k + (i : Int)), y']) (ds := [.int (k + (i : Int)), d]) h2 (.cons (.int _) (.cons (q2.up eG) .nil))
  exact ⟨_, _, e2, r2, enumFrom_get ds k i d q1, d2⟩
def fEnum (f : FE) : FA := fun s => (f s).bind fun d s => R.of ((items d).map (enumFrom 0)) s
def stD (k d : D) : Option (List D) := match k with
  | .int k => if -(2 ^ 62) ≤ k ∧ k < 2 ^ 62 then (items d).map (enumFrom k) else none
  | _ => none
def fEnumK (f g : FE) : FA := fun s => (f s).bind fun d s => (g s).bind fun k s => R.of (stD k d) s
section
variable {X : Cx} {ex : ExT} {W : WX}
theorem pi_en {Z : It → Hp → Prop} {e : Expr} {ta : TA} {p pos tpos : Pos} {elts : List Expr} {kk : Nat} (hg : Gl X "enumerate") (hm : X.mg "enumerate" = none) (ha : PA X [e] ta) (hs : starEach [e] X.env = [(false, eval e X.env)] := by rfl) :
    PI X (.Tuple elts kk tpos) (.Call (.Name "enumerate" p) [e] [] pos) (fun σ H Rr => ta σ H fun vs H1 => ∃ a, vs = [.ref a] ∧ (((∃ xs, SqL X.K H1 a xs) ∧ Rr (ItEn (fun H xs => SqL X.K H a xs) 0) H1) ∨ ((∃ xs, SqT X.K H1 a xs) ∧ Rr (ItEn (fun H xs => SqT X.K H a xs) 0) H1))) := by
  refine ⟨fun pins s σ H Rr I h => ?_⟩
  refine Call_ (ld_blt I hg hm PyProof.Rows.boot_enumerate (PyProof.Rows.callWith_type1 (thn (ha.run pos pins s σ H _ I h) fun us s1 ⟨vs, H1, I1, r1, q1⟩ => ?_) hs rfl))
  obtain ⟨a, ea, q1⟩ := q1
  subst ea
  cases r1 with
  | cons r rr =>
    cases rr
    cases r
    have fin : ∀ {Sq : Hp → List V → Prop} {isIt : Heap → Addr → Nat → Prop} {isX : Heap → Array Value → Prop} {ob : Obj} {Hs : Heap → Prop}, SeqK X.prog X.w X.K a Sq isIt isX → Begins (.ref a) ob Hs → Hs s1.heap → (∀ h' : Heap, h'.get? s1.heap.objs.size = some ob → isIt h' s1.heap.objs.size 0) → Rr (ItEn Sq 0) H1 →
        wpAny (model X.prog X.w) X.A (call (.type "enumerate") [.ref a]) (fun v s1 => wpAny (model X.prog X.w) X.A (pyIter v) (PIE X pins σ (.Tuple elts kk tpos) Rr) X.xe s1) X.xe s1 := by
      intro Sq isIt isX ob Hs Zk B hb hi0 q
      refine enumCall1 B hb fun h' he hit hsz hk => wpAny_pyIter_enum he ?_
      have I2 : Inv X pins σ H1 { s1 with heap := h' } := I1.kept (t' := s1.toks) hk
      refine ⟨s1.heap.objs.size + 1, [s1.heap.objs.size + 1, s1.heap.objs.size], _, _, H1, rfl, I2, turn_en (e := s1.heap.objs.size + 1) (it := s1.heap.objs.size) 0 Zk, ⟨⟨.none, he⟩, hi0 h' hit, Nat.succ_ne_self _⟩, fun b hb => ?_, q⟩
      have hle : s1.heap.objs.size ≤ b := by
        rcases List.mem_cons.mp hb with rfl | hb
        · exact Nat.le_add_right _ _
        · rw [List.mem_singleton.mp hb]; exact Nat.le_refl _
      exact I1.fpOk hle (I1.hok.fresh hle)
    rcases q1 with ⟨⟨xs, hq⟩, q⟩ | ⟨⟨xs, hq⟩, q⟩
    · obtain ⟨its, rv, p', _⟩ := I1.list hq
      exact fin seqK_list (begins_list a its.toArray) p'.isList (fun h' e => ⟨_, e, rfl, rfl⟩) q
    · obtain ⟨its, rv, p', _⟩ := I1.tuple hq
      exact fin seqK_tup (begins_tuple a its.toArray) p' (fun h' e => ⟨_, e, rfl, rfl⟩) q
theorem iEnum {e : Expr} {f : FE} {p pos tpos : Pos} {elts : List Expr} {kk : Nat} (hm : X.mg "enumerate" = none) (he : PE X e (tE X.K ex W f)) (hg : Gl X "enumerate" := by rfl) (hs : starEach [e] X.env = [(false, eval e X.env)] := by rfl) (hs0 : starEach [e] X.env = (false, eval e X.env) :: starEach [] X.env := by rfl) :
    PI X (.Tuple elts kk tpos) (.Call (.Name "enumerate" p) [e] [] pos) (tI X.K ex W (fEnum f)) := PI.imp (pi_en (Z := fun _ _ => True) hg hm (pa_cons he pa_nil hs0) hs) fun σ H Rr ⟨_, _, _, r, q⟩ =>
  inE r q fun d s1 G1 H1 v e1 r1 hv q1 => by
    cases d with
    | list ds =>
      cases hv with
      | lst h1 h2 => exact ⟨_, rfl, .inl ⟨⟨_, r1.b.sub.seq h1⟩, q1.val' r1 _ (wkEn (Sq := fun H xs => SqL X.K H _ xs) (fun e h => e.seq h) h1 h2)⟩⟩
    | tuple ds =>
      cases hv with
      | tup h1 h2 => exact ⟨_, rfl, .inr ⟨⟨_, sqT_mono r1.b.sub h1⟩, q1.val' r1 _ (wkEn (Sq := fun H xs => SqT X.K H _ xs) (fun e h => sqT_mono e h) h1 h2)⟩⟩
    | _ => exact q1.elim
end
end PD
namespace PD
open PySem PySem.Spec L2
open PyProof.Rows hiding St
/-! ### isinstance(e, T), T a built-in class -/
def tyN : D → Option String
  | .none => some "NoneType"
  | .bool _ => some "bool"
  | .int _ => some "int"
  | .str _ => some "str"
  | .list _ => some "list"
  | .tuple _ => some "tuple"
  | .dict _ => none
def dIsi (T : String) (d : D) : Option D := (tyN d).map fun t => .bool (t == T)
theorem kitN {K : PySem.W.Frag} {T : String} (hT : T = "tuple" ∨ T = "list" ∨ T = "str") {d : D} {t : String} (h : tyN d = some t) : PySem.W.kitOne K (.type t) (.type T) = some (t == T) := by
  rcases hT with rfl | rfl | rfl <;> cases d <;> cases h <;> rfl
theorem tyx_of {K : PySem.W.Frag} {G H : Hp} {v : V} {d : D} {t : String} (h : Dp K G v d) (e : Same G H) (ht : tyN d = some t) : TyX K H v (.type t) := by
  cases h with
  | dct _ _ => cases ht
  | non => cases ht; exact .base .non
  | bl b => cases ht; exact .base (.bl b)
  | int i => cases ht; exact .base (.int i)
  | str z => cases ht; exact .base (.str z)
  | lst h1 h2 =>
    cases ht
    rcases e.seq h1 with (q | ⟨o, q⟩) | ⟨o, its, n, hk, hc, _⟩
    · exact .base (.lst q)
    · exact .base (.frz q)
    · exact .kList hk hc
  | tup h1 h2 =>
    cases ht
    rcases sqT_mono e h1 with (q | ⟨o, q⟩) | ⟨o, its, n, hk, hc, _⟩
    · exact .base (.tup q)
    · exact .fTuple q
    · exact .kTuple hk hc
section
variable {X : Cx} {ex : ExT} {W : WX}
theorem eIsi {e : Expr} {f : FE} {p p2 pos : Pos} {T : String} {x : Str} (hT : T = "tuple" ∨ T = "list" ∨ T = "str") (hm : X.mg "isinstance" = none) (hm2 : X.mg x = none) (hv : bootBuiltins x = some (.type T)) (he : PE X e (tE X.K ex W f)) (hg : Gl X "isinstance" := by rfl) (hg2 : Gl X x := by rfl)
    (hn : x ≠ "__name__" := by decide) (hdb : (x == ("__debug__" : Str)) = false := by decide)
    (hs : starEach [e, .Name x p2] X.env = (false, eval e X.env) :: starEach [.Name x p2] X.env := by rfl) (hs2 : starEach [.Name x p2] X.env = (false, eval (.Name x p2) X.env) :: starEach [] X.env := by rfl) (hpl : (backTo pos (starEach [.Name x p2] X.env)).any (·.1) = false := by rfl) :
    PE X (.Call (.Name "isinstance" p) [e, .Name x p2] [] pos) (tE X.K ex W (fB1 (dIsi T) f)) :=
  PE.imp (pe_callB call_isi hg hm PyProof.Rows.boot_isinstance (pa_cons he (pa_cons (pe_bltn (v := .ty T) hg2 hm2 hv rfl hn hdb) pa_nil hs2) hs) (by decide) (by decide) hs hpl) fun σ H Q ⟨_, _, _, r, h⟩ =>
    inE r h fun d s1 G1 H1 v e1 r1 hv h1 => by
      cases ht : tyN d with
      | none =>
        have : dIsi T d = none := by unfold dIsi; rw [ht]; rfl
        rw [this] at h1
        exact h1.elim
      | some t =>
        have z : dIsi T d = some (.bool (t == T)) := by unfold dIsi; rw [ht]; rfl
        rw [z] at h1
        exact ⟨v, .ty T, .type t, .type T, t == T, rfl, .ty T, tyx_of hv r1.b.sub ht, kitN hT ht, h1.val r1 (.bl _)⟩
end
end PD
/-! PD13: calls that borrow lists which grow: the answer is a plain value, the lists stay the def's own. -/
namespace PD
open PySem PySem.Spec L2
open PyProof.Rows hiding St
def star (c : Act) (H : Hp) : Hp := fun a => if a = c.wa then none else match H a with
  | some (.tbl _) => none
  | o => o
theorem star_ne {c : Act} {H : Hp} {a : Addr} (h : a ≠ c.wa) {o : HO} (e : H a = some o) (hn : ∀ ps, o ≠ .tbl ps) : star c H a = some o := by
  unfold star
  rw [if_neg h, e]
  cases o with
  | tbl ps => exact absurd rfl (hn ps)
  | _ => rfl
theorem star_some {c : Act} {H : Hp} {a : Addr} {o : HO} (e : star c H a = some o) : H a = some o ∧ ∀ ps, o ≠ .tbl ps := by
  unfold star at e
  split at e
  · cases e
  · split at e
    · cases e
    · rename_i h
      exact ⟨e, fun ps z => h ps (e.trans (by rw [z]))⟩
theorem star_sub {c : Act} {H : Hp} : Same (star c H) H := fun a o e => (star_some e).1
section
variable {K : PySem.W.Frag} {c : Act} {G H G' H' : Hp} {σ : L2.St} {s : S} {w' : Wst}
theorem Rel.toStar (r : Rel K c G H σ s) : Same G (star c H) := fun a o e => by
  have h : a ≠ c.wa := fun q => by
    rw [q, r.b.wf] at e
    cases e
  exact star_ne h (r.b.sub a o e) fun ps z => r.b.ng a ps (by rw [e, z])
theorem Rel.baseStar (r : Rel K c G H σ s) : Base K ⟨c.wa, c.sc, star c H, H, 0, []⟩ (star c H) H s.w :=
  ⟨star_sub, r.b.wl, if_pos rfl, r.toStar.seq r.b.scr, Same.refl _, fun _ _ e _ => e, fun _ _ _ _ e => e, (fun _ h => nomatch h), fun a ps z => (star_some z).2 ps rfl⟩
theorem Rel.lookStar {i : Nat} {d : D} (r : Rel K c G H σ s) (h : PD.look s i = some d) : ∃ v, σ[i]? = some (some v) ∧ Dp K (star c H) v d := by
  unfold PD.look at h
  split at h
  · rename_i d' hd
    obtain ⟨v, hv, he⟩ := r.slot i _ hd
    cases h
    exact ⟨v, hv, Dp.up he r.toStar⟩
  · rename_i ds hd
    obtain ⟨v, hv, p, ho, rfl, _, _, h3, h4, ⟨vs, rfl, h5⟩⟩ := r.slot i _ hd
    cases h
    exact ⟨_, hv, .lst (SqL.of (star_ne h3 h4 fun _ z => nomatch z)) (h5.up r.toStar)⟩
  · rename_i ds hd
    obtain ⟨v, hv, p, ho, rfl, _, _, h3, h4, ⟨vs, rfl, h5⟩⟩ := r.slot i _ hd
    cases h
    exact ⟨_, hv, .dct (star_ne h3 h4 fun _ z => nomatch z) (h5.up r.toStar).kvs⟩
  · cases h
theorem Rel.back (r : Rel K c G H σ s) (b : Base K ⟨c.wa, c.sc, star c H, H, 0, []⟩ G' H' w') : Rel K c G H' σ { s with w := ⟨s.w.ns, w'.k⟩ } := by
  refine ⟨⟨fun a o e => ?_, b.wl, r.b.wf, r.b.scr, r.b.g0, fun a o e n => b.h0 a o (r.b.h0 a o e n) n, r.b.n0, fun q hq => let ⟨t, g, h⟩ := r.b.tb q hq; ⟨t.exw r.b.wl b.h0, g, h⟩, r.b.ng⟩, r.len, fun i e q => ?_, r.sep⟩
  · have h : a ≠ c.wa := fun q => by
      rw [q, r.b.wf] at e
      cases e
    exact b.h0 a o (r.b.sub a o e) h
  · obtain ⟨v, hv, he⟩ := r.slot i e q
    exact ⟨v, hv, he.up (Same.refl _) fun p vs h1 h2 _ h4 _ => ⟨b.h0 p _ h1 h4, h2⟩⟩
end
def atomD : D → Bool
  | .none => true
  | .bool _ => true
  | .int _ => true
  | .str _ => true
  | _ => false
theorem Dp.atom {K : PySem.W.Frag} {G G' : Hp} {v : V} {d : D} (h : Dp K G v d) (ha : atomD d = true) : Dp K G' v d := by
  cases h with
  | non => exact .non
  | bl b => exact .bl b
  | int i => exact .int i
  | str z => exact .str z
  | lst _ _ => cases ha
  | tup _ _ => cases ha
  | dct _ _ => cases ha
theorem DpAll.atom {K : PySem.W.Frag} {G G' : Hp} : ∀ {vs : List V} {ds : List D}, DpAll K G vs ds → ds.all atomD = true → DpAll K G' vs ds
  | _, _, .nil, _ => .nil
  | _, _, .cons h t, ha => by
    rw [List.all_cons, Bool.and_eq_true] at ha
    exact .cons (Dp.atom h ha.1) (DpAll.atom t ha.2)
abbrev FB := S → Option D
abbrev FBs := S → Option (List D)
def bSlot (i : Nat) : FB := fun s => look s i
def bCst (d : D) : FB := fun _ => some d
def bAll0 : FBs := fun _ => some []
def bAll1 (f : FB) (g : FBs) : FBs := fun s => (f s).bind fun d => (g s).map fun ds => d :: ds
def tB (K : PySem.W.Frag) (f : FB) : TE := fun σ H Q => ∃ c G s d, Rel K c G H σ s ∧ f s = some d ∧ ∀ v, Dp K (star c H) v d → Q v H
def tBs (K : PySem.W.Frag) (f : FBs) : TA := fun σ H Q => ∃ c G s ds, Rel K c G H σ s ∧ f s = some ds ∧ ∀ vs, DpAll K (star c H) vs ds → Q vs H
def fCallB (n : Nat) (sem : Sem') (f : FBs) : FE := fun s => match f s with
  | none => .bad
  | some ds => if ds.length = n then
      match sem ds s.w with
      | .ret d w => if atomD d = true then .ok d { s with w := ⟨s.w.ns, w.k⟩ } else .bad
      | .exc k as w => if as.all atomD = true then .exc k as { s with w := ⟨s.w.ns, w.k⟩ } else .bad
      | .bad => .bad
    else .bad
section
variable {X : Cx} {ex : ExT} {W : WX}
theorem eBor (i : Nat) {x : Str} {pos : Pos} (hN : X.N[i]? = some x := by rfl) (hv : Vis X.env.scope x := by first | exact Or.inl rfl | exact Or.inr (Or.inl rfl) | exact Or.inr (Or.inr rfl)) (hd : (x == ("__debug__" : Str)) = false := by decide)
    (hcd : (x == ("__classdict__" : Str)) = false := by decide) : PE X (.Name x pos) (tB X.K (bSlot i)) :=
  PE.imp (pe_var hN hv hd hcd) fun σ H Q ⟨_, _, _, _, r, h, q⟩ => by
    obtain ⟨v, hv, he⟩ := r.lookStar h
    exact ⟨v, hv, q v he⟩
theorem eBorI {i : Int} {j : Nat} {pos : Pos} : PE X (.Constant (.int i) j pos) (tB X.K (bCst (.int i))) := PE.imp pe_int fun σ H Q ⟨_, _, _, _, r, h, q⟩ => by
  cases h
  exact q _ (.int i)
theorem bor0 : PA X [] (tBs X.K bAll0) := PA.imp pa_nil fun σ H Q ⟨_, _, _, _, r, h, q⟩ => by
  cases h
  exact q _ .nil
theorem bor1 {e : Expr} {es : List Expr} {f : FB} {g : FBs} (hf : PE X e (tB X.K f)) (hg : PA X es (tBs X.K g)) (hs : starEach (e :: es) X.env = (false, eval e X.env) :: starEach es X.env := by rfl) : PA X (e :: es) (tBs X.K (bAll1 f g)) :=
  PA.imp (pa_cons hf hg hs) fun σ H Q ⟨c, G, s, ds, r, h, q⟩ => by
    unfold bAll1 at h
    cases hd : f s with
    | none => rw [hd] at h; cases h
    | some d =>
      rw [hd] at h
      cases he : g s with
      | none => rw [Option.bind_some, he] at h; cases h
      | some es =>
        rw [Option.bind_some, he] at h
        cases h
        exact ⟨c, G, s, d, r, hd, fun v hv => ⟨c, G, s, es, r, he, fun vs hvs => q _ (.cons hv hvs)⟩⟩
theorem eCallB {k n : Nat} {x : Str} {sem : Sem'} {e : Expr} {es : List Expr} {f : FBs} {p pos : Pos} (F : FnD X.prog X.w X.K X.mg X.base ex k x false n sem) (hr : Room k X.A) (tk : Takes X W) (ha : PA X (e :: es) (tBs X.K f)) (hg : Gl X x := by rfl)
    (hdb : (x == ("__debug__" : Str)) = false := by decide) (he : starEach (e :: es) X.env = (false, eval e X.env) :: starEach es X.env := by rfl) (hpl : (backTo pos (starEach es X.env)).any (·.1) = false := by rfl) :
    PE X (.Call (.Name x p) (e :: es) [] pos) (tE X.K ex W (fCallB n sem f)) := by
  obtain ⟨fa, fd, ps, ok, hm, hk, hb⟩ := F.ex
  refine PE.imp (pe_callS ok hr hg hm hk hb (fun σ => passAt tk σ) ha hdb he hpl) fun σ H Q ⟨c, G, s, r, q⟩ => ?_
  unfold fCallB at q
  cases hf : f s with
  | none => rw [hf] at q; exact q.elim
  | some ds =>
    rw [hf] at q
    dsimp only at q
    by_cases hl : ds.length = n
    · rw [if_pos hl] at q
      refine ⟨c, G, s, ds, r, hf, fun vs hvs => ⟨c.wa, c.sc, star c H, s.w, ds, vs, r.baseStar, rfl, hl, hvs, ?_⟩⟩
      cases z : sem ds s.w with
      | ret d w' =>
        rw [z] at q
        dsimp only at q
        by_cases hd : atomD d = true
        · rw [if_pos hd] at q
          intro v G' H' b hvd
          exact q G H' (Same.refl _) (r.back b) v (Dp.atom hvd hd)
        · rw [if_neg hd] at q
          exact q.elim
      | exc k as w' =>
        rw [z] at q
        dsimp only at q
        by_cases hd : as.all atomD = true
        · rw [if_pos hd] at q
          intro cls dx G' H' b hx
          refine q cls dx G H' (Same.refl _) (r.back b) ?_
          obtain ⟨C, names, dd, fs, us, e1, e2, e3, e4, e5, e6⟩ := hx
          exact ⟨C, names, dd, fs, us, e1, e2, e3, e4, e5, DpAll.atom e6 hd⟩
        · rw [if_neg hd] at q
          exact q.elim
      | bad =>
        rw [z] at q
        exact q.elim
    · rw [if_neg hl] at q
      exact q.elim
end
end PD
namespace PD
open PySem PySem.Spec L2
open PyProof.Rows hiding St
/-! ### [..] * n -/
theorem DpAll.rep {K : PySem.W.Frag} {G : Hp} {vs : List V} {ds : List D} (h : DpAll K G vs ds) : ∀ n : Nat, DpAll K G (List.replicate n vs).flatten (List.replicate n ds).flatten
  | 0 => .nil
  | n + 1 => by
    rw [List.replicate_succ, List.replicate_succ, List.flatten_cons, List.flatten_cons]
    exact h.app (DpAll.rep h n)
theorem rep_len {α : Type} (l : List α) : ∀ n : Nat, (List.replicate n l).flatten.length = l.length * n
  | 0 => rfl
  | n + 1 => by rw [List.replicate_succ, List.flatten_cons, List.length_append, rep_len l n, Nat.mul_succ, Nat.add_comm]
def repD (ds : List D) (k : D) : Option (List D) := match k with
  | .int k => if -(2 ^ 62) ≤ k ∧ k < 2 ^ 62 ∧ ds.length * k.toNat ≤ sizeLine then some (List.replicate k.toNat ds).flatten else none
  | _ => none
def fRepL (f : FA) (g : FE) : FA := fun s => (f s).bind fun ds s => if ds.length ≤ sizeLine then (g s).nox.bind fun k s => R.of (repD ds k) s else .bad
section
variable {X : Cx} {ex : ExT} {W : WX}
theorem oRepL {es : List Expr} {b : Expr} {f : FA} {g : FE} {p pos : Pos} (ha : PA X es (tA X.K ex W f)) (hg : PE X b (tE X.K ex W0 g)) : PE X (.BinOp (.List es p) .Mult b pos) (tO X.K ex W (fRepL f g)) :=
  PE.imp (pe_op op_rep (pe_lst ha) hg) fun σ H Q ⟨c, _, _, r, h⟩ => inA r h fun ds s1 G1 H1 vs e1 r1 hvs h1 => by
    by_cases hl : ds.length ≤ sizeLine
    · rw [if_pos hl] at h1
      refine ⟨by rw [hvs.len]; exact hl, fun q hq => ?_⟩
      obtain ⟨f1, f2, f3, f4⟩ := r1.b.free hq
      obtain ⟨r2, fr⟩ := r1.newOwn hq hvs
      obtain ⟨q', ws, x1, x2, b1⟩ := fr.beside
      cases x1
      have ew : ws = vs := by
        have z := b1.at_
        rw [upd_same] at z
        cases z
        rfl
      subst ew
      refine ⟨c.prot q (.lst ws), G1, s1, r2.prot b1, Post.seqN h1 fun kd s2 G2 H2 e2 r4 h4 v hv => ?_⟩
      obtain ⟨r5, b5⟩ := Rel.unprot rfl f3 f4 f2 r4
      cases kd with
      | int k =>
        cases hv
        by_cases hk : -(2 ^ 62) ≤ k ∧ k < 2 ^ 62 ∧ ds.length * k.toNat ≤ sizeLine
        · have z : repD ds (.int k) = some (List.replicate k.toNat ds).flatten := by unfold repD; exact if_pos hk
          rw [z] at h4
          refine ⟨q, k, ws, rfl, rfl, b5.at_, by omega, by omega, by rw [hvs.len]; exact hk.2.2, fun q2 hq2 => ?_⟩
          obtain ⟨r6, f6⟩ := r5.newOwn hq2 (DpAll.rep (hvs.up e2) k.toNat)
          exact h4.val' r6 _ f6
        · have z : repD ds (.int k) = none := by unfold repD; exact if_neg hk
          rw [z] at h4
          exact h4.elim
      | _ => exact h4.elim
    · rw [if_neg hl] at h1
      exact h1.elim
end
end PD
/-! PD14: texts: str(i), int(text), join, split, a text walked; enumerate with a start; a, b = e1, [..] with lists of its own. -/
namespace PD
open PySem PySem.Spec L2
open PyProof.Rows hiding St
/-! ### texts -/
theorem CallR.or {X : Cx} {u : Value} {r r' : List V → Hp → VK → Prop} (h : CallR X u r) (h' : CallR X u r') : CallR X u (fun vs H Q => r vs H Q ∨ r' vs H Q) := by
  intro pins s σ H xs us Q I rs q
  rcases q with q | q
  · exact h pins s σ H xs us Q I rs q
  · exact h' pins s σ H xs us Q I rs q
def dStr : D → Option D
  | .int i => if i.natAbs.log2 < 1920 then some (.str (toString i)) else none
  | _ => none
def dIntX : D → Option D
  | .str a => if a.length ≤ 640 then (PySem.intText? a).map PyData.int else none
  | d => dIntO d
def rStrI : List V → Hp → VK → Prop := fun xs H Q => ∃ i, xs = [.int i] ∧ i.natAbs.log2 < 1920 ∧ Q (.str (toString i)) H
def rIntS : List V → Hp → VK → Prop := fun xs H Q => ∃ a n, xs = [.str a] ∧ PySem.intText? a = some n ∧ a.length ≤ 640 ∧ Q (.int n) H
theorem cd_str {K : PySem.W.Frag} : CaD K rStrI dStr := by
  intro c G H σ s x a d Q r hx e q
  cases a with
  | int i =>
    cases hx
    unfold dStr at e
    dsimp only at e
    by_cases h : i.natAbs.log2 < 1920
    · rw [if_pos h] at e
      cases e
      exact ⟨i, rfl, h, q _ G H (Same.refl _) r (.str _)⟩
    · rw [if_neg h] at e
      cases e
  | _ => cases e
theorem cd_intX {K : PySem.W.Frag} : CaD K (fun vs H Q => rIntO vs H Q ∨ rIntS vs H Q) dIntX := by
  intro c G H σ s x a d Q r hx e q
  cases a with
  | str z =>
    cases hx
    unfold dIntX at e
    dsimp only at e
    by_cases h : z.length ≤ 640
    · rw [if_pos h] at e
      cases z' : PySem.intText? z with
      | none => rw [z'] at e; cases e
      | some n =>
        rw [z'] at e
        cases e
        exact .inr ⟨z, n, rfl, z', h, q _ G H (Same.refl _) r (.int _)⟩
    · rw [if_neg h] at e
      cases e
  | _ => exact .inl (cd_int c G H σ s x _ d Q r hx e q)
section
variable {X : Cx} {ex : ExT} {W : WX} {e o : Expr} {f g : FE} {p pos apos : Pos}
theorem eStrF (hm : X.mg "str" = none) (he : PE X e (tE X.K ex W f)) (hg : Gl X "str" := by rfl) (hs : starEach [e] X.env = (false, eval e X.env) :: starEach [] X.env := by rfl) (hpl : (backTo pos (starEach [] X.env)).any (·.1) = false := by rfl) :
    PE X (.Call (.Name "str" p) [e] [] pos) (tE X.K ex W (fB1 dStr f)) := eT1 (r := rStrI) call_str_int cd_str hm he (hg := hg) (hs := hs) (hpl := hpl)
theorem eIntX (hm : X.mg "int" = none) (he : PE X e (tE X.K ex W f)) (hg : Gl X "int" := by rfl) (hs : starEach [e] X.env = (false, eval e X.env) :: starEach [] X.env := by rfl) (hpl : (backTo pos (starEach [] X.env)).any (·.1) = false := by rfl) :
    PE X (.Call (.Name "int" p) [e] [] pos) (tE X.K ex W (fB1 dIntX f)) := eT1 (r := fun vs H Q => rIntO vs H Q ∨ rIntS vs H Q) (CallR.or (r := rIntO) (r' := rIntS) call_int1 call_int_str) cd_intX hm he (hg := hg) (hs := hs) (hpl := hpl)
end
def strD : D → Option Str
  | .str i => some i
  | _ => none
def strsD : List D → Option (List Str)
  | [] => some []
  | d :: ds => (strD d).bind fun i => (strsD ds).map fun l => i :: l
theorem strsD_eq : ∀ {ds : List D} {ns : List Str}, strsD ds = some ns → ds = ns.map PyData.str
  | [], ns, h => by cases h; rfl
  | d :: ds, ns, h => by
    unfold strsD at h
    cases d with
    | str i =>
      cases z : strsD ds with
      | none => simp [strD, z] at h
      | some l =>
        simp [strD, z] at h
        subst h
        rw [strsD_eq z]
        rfl
    | _ => simp [strD] at h
@[simp] theorem strsD_map (ns : List Str) : strsD (ns.map PyData.str) = some ns := by
  induction ns with
  | nil => rfl
  | cons n ns ih => simp [strsD, strD, ih]
theorem dpStrs {K : PySem.W.Frag} {G : Hp} : ∀ (ns : List Str), DpAll K G (ns.map V.str) (ns.map PyData.str)
  | [] => .nil
  | _ :: r => .cons (.str _) (dpStrs r)
def isS {α : Type} (d : D) (k : Str → R α) : R α := match d with
  | .str z => k z
  | _ => .bad
def joinD (z : Str) (b : D) : Option D := (items b).bind fun ds => (strsD ds).bind fun ys => if (ys.map (·.length)).sum + ys.length * z.length ≤ 16777216 then some (.str (Txt.join z ys)) else none
def fJoin (f g : FE) : FE := fun s => (f s).bind fun a s => isS a fun z => (g s).bind fun b s => R.of (joinD z b) s
def splitD (z : Str) (b : D) : Option (List D) := match b with
  | .str y => if (y.length == 0) = false ∧ z.length + 2 ≤ sizeLine then some ((Txt.split z y).map PyData.str) else none
  | _ => none
def fSplit (f g : FE) : FA := fun s => (f s).bind fun a s => isS a fun z => (g s).bind fun b s => R.of (splitD z b) s
section
variable {X : Cx} {ex : ExT} {W : WX} {e o : Expr} {f g : FE} {p pos apos : Pos}
theorem eJoin (ho : PE X o (tE X.K ex W f)) (he : PE X e (tE X.K ex W g)) (hs : starEach [e] X.env = [(false, eval e X.env)] := by rfl) (hbase : attributeBase o "join" X.env (eval o X.env) = eval o X.env := by rfl) (hline : (apos.endLine == pos.line) = true := by rfl) :
    PE X (.Call (.Attribute o "join" apos) [e] [] pos) (tE X.K ex W (fJoin f g)) := PE.imp (pe_join ho he hs hbase hline) fun σ H Q ⟨_, _, _, r, h⟩ => inE r h fun d s1 G1 H1 v e1 r1 hv h1 => by
  cases d with
  | str z =>
    cases hv
    refine ⟨⟨_, rfl⟩, inE r1 h1 fun b s2 G2 H2 u e2 r2 hu h2 => ?_⟩
    cases y : joinD z b with
    | none => rw [y] at h2; exact h2.elim
    | some d' =>
      rw [y] at h2
      unfold joinD at y
      cases b with
      | list ds =>
        cases hu with
        | lst q1 q2 =>
          cases w : strsD ds with
          | none => simp [items, w] at y
          | some ys =>
            simp [items, w] at y
            obtain ⟨y1, y2⟩ := y
            subst y2
            have q3 := strsD_eq w
            subst q3
            have q4 := DpAll.of_strs q2
            subst q4
            exact ⟨z, _, ys, rfl, rfl, .inl (r2.b.sub.seq q1), y1, h2.val r2 (.str _)⟩
      | tuple ds =>
        cases hu with
        | tup q1 q2 =>
          cases w : strsD ds with
          | none => simp [items, w] at y
          | some ys =>
            simp [items, w] at y
            obtain ⟨y1, y2⟩ := y
            subst y2
            have q3 := strsD_eq w
            subst q3
            have q4 := DpAll.of_strs q2
            subst q4
            exact ⟨z, _, ys, rfl, rfl, .inr (sqT_mono r2.b.sub q1), y1, h2.val r2 (.str _)⟩
      | _ => simp [items] at y
  | _ => exact h1.elim
theorem oSplit (ho : PE X o (tE X.K ex W f)) (he : PE X e (tE X.K ex W g)) (hs : starEach [e] X.env = [(false, eval e X.env)] := by rfl) (hbase : attributeBase o "split" X.env (eval o X.env) = eval o X.env := by rfl) (hline : (apos.endLine == pos.line) = true := by rfl) :
    PE X (.Call (.Attribute o "split" apos) [e] [] pos) (tO X.K ex W (fSplit f g)) := PE.imp (pe_split ho he hs hbase hline) fun σ H Q ⟨_, _, _, r, h⟩ => inE r h fun d s1 G1 H1 v e1 r1 hv h1 => by
  cases d with
  | str z =>
    cases hv
    refine ⟨⟨_, rfl⟩, inE r1 h1 fun b s2 G2 H2 u e2 r2 hu h2 => ?_⟩
    cases b with
    | str y =>
      cases hu
      have h2 : Post X.K ex W _ G2 σ _ (R.of (if (y.length == 0) = false ∧ z.length + 2 ≤ sizeLine then some ((Txt.split z y).map PyData.str) else none) s2) := h2
      by_cases c : (y.length == 0) = false ∧ z.length + 2 ≤ sizeLine
      · rw [if_pos c] at h2
        refine ⟨z, y, rfl, rfl, c.1, c.2, fun p hp => ?_⟩
        obtain ⟨r3, hf⟩ := r2.newOwn hp (dpStrs (Txt.split z y))
        exact h2.val' r3 _ hf
      · rw [if_neg c] at h2
        exact h2.elim
    | _ => exact h2.elim
  | _ => exact h1.elim
end
/-! ### a text walked -/
def signs (z : Str) : List D := z.cps.toList.map fun c => .str ⟨#[c]⟩
def itemsX : D → Option (List D)
  | .str z => some (signs z)
  | d => items d
def fItX (f : FE) : FA := fun s => (f s).bind fun d s => R.of (itemsX d) s
theorem wkStr {K : PySem.W.Frag} {G : Hp} {z : Str} : WkD K G (Its z) (signs z) := by
  have w : Walk (Its z) z.cps.size (fun _ => True) (fun i H v H' => H' = H ∧ ∃ c, z.cps[i]? = some c ∧ v = .str ⟨#[c]⟩) := walk_str
  have hl : (signs z).length = z.cps.size := by simp [signs]
  unfold WkD
  rw [hl]
  refine Walk.mono w (fun _ _ => trivial) fun i H x H' hi _ ⟨e, cc, hx, hv⟩ c G' σ s eG r => ?_
  subst e
  subst hv
  exact ⟨G', .str ⟨#[cc]⟩, Same.refl _, r, by simp [signs, hx], .str _⟩
theorem PI.or {X : Cx} {tg e : Expr} {t t' : TI} (h : PI X tg e t) (h' : PI X tg e t') : PI X tg e (fun σ H R => t σ H R ∨ t' σ H R) := ⟨fun pins s σ H R I q => q.elim (h.run pins s σ H R I) (h'.run pins s σ H R I)⟩
section
variable {X : Cx} {ex : ExT} {W : WX} {tg : Expr}
theorem iItX {e : Expr} {f : FE} (h : PE X e (tE X.K ex W f)) : PI X tg e (tI X.K ex W (fItX f)) := PI.imp (PI.or (pi_str h) (iIt (tg := tg) h)) fun σ H Rr ⟨c, G, s, r, q⟩ => by
  have q : Post X.K ex W c G σ _ ((f s).bind fun d s => R.of (itemsX d) s) := q
  cases z : f s with
  | bad => rw [z] at q; exact q.elim
  | exc k as s1 =>
    refine .inr ⟨c, G, s, r, ?_⟩
    show Post X.K ex W c G σ _ ((f s).bind fun d s => R.of (items d) s)
    rw [z] at q ⊢
    exact q
  | ok d s1 =>
    cases d with
    | str x =>
      refine .inl ⟨c, G, s, r, ?_⟩
      rw [z] at q ⊢
      intro G1 H1 e1 r1 v hv
      cases hv
      exact ⟨x, rfl, q G1 H1 e1 r1 _ wkStr⟩
    | _ =>
      refine .inr ⟨c, G, s, r, ?_⟩
      show Post X.K ex W c G σ _ ((f s).bind fun d s => R.of (items d) s)
      rw [z] at q ⊢
      exact q
end
/-! ### enumerate(e, k) -/
section
variable {X : Cx} {ex : ExT} {W : WX}
theorem pi_enK {e e2 : Expr} {ta : TA} {p pos tpos : Pos} {elts : List Expr} {kk : Nat} (hg : Gl X "enumerate") (hm : X.mg "enumerate" = none) (ha : PA X [e, e2] ta)
    (hs : starEach [e, e2] X.env = (false, eval e X.env) :: starEach [e2] X.env := by rfl) (hpl : (backTo pos (starEach [e2] X.env)).any (·.1) = false := by rfl) :
    PI X (.Tuple elts kk tpos) (.Call (.Name "enumerate" p) [e, e2] [] pos) (fun σ H Rr => ta σ H fun vs H1 => ∃ a k, vs = [.ref a, .int k] ∧ (-(2 ^ 62) ≤ k ∧ k < 2 ^ 62) ∧ (((∃ xs, SqL X.K H1 a xs) ∧ Rr (ItEn (fun H xs => SqL X.K H a xs) k) H1) ∨ ((∃ xs, SqT X.K H1 a xs) ∧ Rr (ItEn (fun H xs => SqT X.K H a xs) k) H1))) := by
  refine ⟨fun pins s σ H Rr I h => ?_⟩
  refine Call_ (ld_blt I hg hm PyProof.Rows.boot_enumerate (PyProof.Rows.callWith_type1 (thn (ha.run pos pins s σ H _ I h) fun us s1 ⟨vs, H1, I1, r1, q1⟩ => ?_) hs hpl))
  obtain ⟨a, k, ea, hk, q1⟩ := q1
  subst ea
  cases r1 with
  | cons r rr =>
   cases rr with
   | cons r' rr =>
    cases rr
    cases r
    obtain ⟨t, rfl⟩ := r'
    have fin : ∀ {Sq : Hp → List V → Prop} {isIt : Heap → Addr → Nat → Prop} {isX : Heap → Array Value → Prop} {ob : Obj} {Hs : Heap → Prop}, SeqK X.prog X.w X.K a Sq isIt isX → Begins (.ref a) ob Hs → Hs s1.heap → (∀ h' : Heap, h'.get? s1.heap.objs.size = some ob → isIt h' s1.heap.objs.size 0) → Rr (ItEn Sq k) H1 →
        wpAny (model X.prog X.w) X.A (call (.type "enumerate") [.ref a, .int k t]) (fun v s1 => wpAny (model X.prog X.w) X.A (pyIter v) (PIE X pins σ (.Tuple elts kk tpos) Rr) X.xe s1) X.xe s1 := by
      intro Sq isIt isX ob Hs Zk B hb hi0 q
      refine enum_begins B hb (by omega) (by omega) fun h' he hit hsz hk => wpAny_pyIter_enum he ?_
      have I2 : Inv X pins σ H1 { s1 with heap := h' } := I1.kept (t' := s1.toks) hk
      have he' : IsEnum h' (s1.heap.objs.size + 1) s1.heap.objs.size (k + ((0 : Nat) : Int)) .none := by
        rw [show k + ((0 : Nat) : Int) = k by omega]
        exact he
      refine ⟨s1.heap.objs.size + 1, [s1.heap.objs.size + 1, s1.heap.objs.size], _, _, H1, rfl, I2, turn_en (e := s1.heap.objs.size + 1) (it := s1.heap.objs.size) k Zk, ⟨⟨.none, he'⟩, hi0 h' hit, Nat.succ_ne_self _⟩, fun b hb => ?_, q⟩
      have hle : s1.heap.objs.size ≤ b := by
        rcases List.mem_cons.mp hb with rfl | hb
        · exact Nat.le_add_right _ _
        · rw [List.mem_singleton.mp hb]; exact Nat.le_refl _
      exact I1.fpOk hle (I1.hok.fresh hle)
    rcases q1 with ⟨⟨xs, hq⟩, q⟩ | ⟨⟨xs, hq⟩, q⟩
    · obtain ⟨its, rv, p', _⟩ := I1.list hq
      exact fin seqK_list (begins_list a its.toArray) p'.isList (fun h' e => ⟨_, e, rfl, rfl⟩) q
    · obtain ⟨its, rv, p', _⟩ := I1.tuple hq
      exact fin seqK_tup (begins_tuple a its.toArray) p' (fun h' e => ⟨_, e, rfl, rfl⟩) q
theorem iEnumK {e e2 : Expr} {f g : FE} {p pos tpos : Pos} {elts : List Expr} {kk : Nat} (hm : X.mg "enumerate" = none) (he : PE X e (tE X.K ex W f)) (he2 : PE X e2 (tE X.K ex W g)) (hg : Gl X "enumerate" := by rfl)
    (hs : starEach [e, e2] X.env = (false, eval e X.env) :: starEach [e2] X.env := by rfl) (hs2 : starEach [e2] X.env = (false, eval e2 X.env) :: starEach [] X.env := by rfl) (hpl : (backTo pos (starEach [e2] X.env)).any (·.1) = false := by rfl) :
    PI X (.Tuple elts kk tpos) (.Call (.Name "enumerate" p) [e, e2] [] pos) (tI X.K ex W (fEnumK f g)) := PI.imp (pi_enK hg hm (pa_cons he (pa_cons he2 pa_nil hs2) hs) hs hpl) fun σ H Rr ⟨_, _, _, r, q⟩ =>
  inE r q fun d s1 G1 H1 v e1 r1 hv q1 => inE r1 q1 fun kd s2 G2 H2 u e2 r2 hu q2 => by
    cases kd with
    | int k =>
      cases hu
      have q2 : Post X.K ex W _ G2 σ _ (R.of (if -(2 ^ 62) ≤ k ∧ k < 2 ^ 62 then (items d).map (enumFrom k) else none) s2) := q2
      by_cases hk : -(2 ^ 62) ≤ k ∧ k < 2 ^ 62
      · rw [if_pos hk] at q2
        have hv2 := hv.up e2
        cases d with
        | list ds =>
          cases hv2 with
          | lst h1 h2 => exact ⟨_, k, rfl, hk, .inl ⟨⟨_, r2.b.sub.seq h1⟩, q2.val' r2 _ (wkEn (Sq := fun H xs => SqL X.K H _ xs) (fun e h => e.seq h) h1 h2)⟩⟩
        | tuple ds =>
          cases hv2 with
          | tup h1 h2 => exact ⟨_, k, rfl, hk, .inr ⟨⟨_, sqT_mono r2.b.sub h1⟩, q2.val' r2 _ (wkEn (Sq := fun H xs => SqT X.K H _ xs) (fun e h => sqT_mono e h) h1 h2)⟩⟩
        | _ => exact q2.elim
      · rw [if_neg hk] at q2
        exact q2.elim
    | _ => exact q2.elim
end
/-! ### new objects of its own -/
def FreshE (K : PySem.W.Frag) (c : Act) (G H : Hp) (σ : St) (s : S) (v : V) (e : Ent) : Prop := EntOk K c G H v e ∧ isOb e = true ∧ ∀ (j : Nat), ObAt s j → σ[j]? ≠ some (some v)
/-- an expression that gives a new object -/
def tN (K : PySem.W.Frag) (ex : ExT) (W : WX) (f : S → R Ent) : TE := fun σ H Q => ∃ c G s, Rel K c G H σ s ∧ Post K ex W c G σ (fun e G' H' s' => ∀ v, FreshE K c G' H' σ s' v e → Q v H') (f s)
theorem inN {K : PySem.W.Frag} {ex : ExT} {W : WX} {c : Act} {G H : Hp} {σ : St} {s : S} {β : Type} {f : S → R Ent} {g : Ent → S → R β} {M : β → Hp → Hp → S → Prop} {N : V → Hp → Prop} (r : Rel K c G H σ s) (h : Post K ex W c G σ M ((f s).bind g))
    (next : ∀ e s' G' H' v, Same G G' → Rel K c G' H' σ s' → FreshE K c G' H' σ s' v e → Post K ex W c G' σ M (g e s') → N v H') : tN K ex W f σ H N :=
  ⟨c, G, s, r, Post.seq h fun a s' G' H' e r' q v hv => next a s' G' H' v e r' hv q⟩
theorem soN {K : PySem.W.Frag} {ex : ExT} {W : WX} {c : Act} {G H : Hp} {σ : St} {s : S} {En : Ends} {f : S → R Ent} {g : Ent → S → O} {N : V → Hp → Prop} (r : Rel K c G H σ s) (h : PostO K ex W c G En ((f s).stm g))
    (next : ∀ ds s' G' H' v, Same G G' → Rel K c G' H' σ s' → FreshE K c G' H' σ s' v ds → PostO K ex W c G' En (g ds s') → N v H') : tN K ex W f σ H N :=
  ⟨c, G, s, r, h.fromR fun a s' G' H' e r' q v hv => next a s' G' H' v e r' hv q⟩
theorem Rel.newOb {K : PySem.W.Frag} {c : Act} {G H : Hp} {σ : St} {s : S} {p : Addr} {ho : HO} (r : Rel K c G H σ s) (hp : H p = none) : Rel K c G (upd H p ho) σ s ∧ G p = none ∧ c.H0 p = none ∧ p ≠ c.wa ∧ ∀ (j : Nat), ObAt s j → σ[j]? ≠ some (some (.ref p)) := by
  obtain ⟨hG, hw, h0, g0⟩ := r.b.free hp
  exact ⟨r.allocOwn hp, hG, h0, hw, fun j hj z => r.notOb hp j hj z⟩
def fO (f : FA) : S → R Ent := fun s => (f s).bind fun ds s => .ok (.own ds) s
def sSetN (i : Nat) (f : S → R Ent) : FO := fun s => (f s).stm fun e s => .nx (s.put i e)
section
variable {X : Cx} {ex : ExT} {W : WX}
theorem nOwn {e : Expr} {f : FA} (h : PE X e (tO X.K ex W f)) : PE X e (tN X.K ex W (fO f)) := PE.imp h fun σ H Q ⟨_, _, _, r, q⟩ =>
  inO r q fun ds s1 G1 H1 v e1 r1 hv q1 => q1.val' r1 v ⟨hv.1, rfl, hv.2⟩
theorem kSetN {i : Nat} {x : Str} {e : Expr} {f : S → R Ent} {pos pos' : Pos} (hN : X.N.Nodup) (he : PE X e (tN X.K ex W f)) (hi : X.N[i]? = some x := by rfl) (hx : Loc X.env.scope x := by first | exact Or.inl rfl | exact Or.inr rfl)
    (hs : swapsWith e (some (.Name x pos')) pos.line X.env = pure false := by rfl) (hf : X.fn x = true ∨ X.env.scope.names.lookup x = some .local := by first | exact .inl rfl | exact .inr rfl) :
    PS X (.Assign [.Name x pos'] e pos) (tS X.K ex W (sSetN i f)) :=
  PS.imp (ps_set hN hi hx he hs hf) fun En σ H ⟨c, _, _, r, h⟩ => soN r h fun ds s1 G1 H1 v e1 r1 hv h1 => h1 _ G1 H1 (Same.refl _) (r1.put i hv.1 fun _ j _ hj => hv.2.2 j hj)
end
/-! ### a, b = e1, e2 where some are new objects of its own -/
abbrev FI := FE ⊕ (S → R Ent)
def fIts : List FI → S → R (List Ent)
  | [], s => .ok [] s
  | .inl f :: r, s => (f s).bind fun d s => (fIts r s).bind fun es s => .ok (.val d :: es) s
  | .inr f :: r, s => (f s).bind fun e s => (fIts r s).bind fun es s => .ok (e :: es) s
def EntsOk (K : PySem.W.Frag) (c : Act) (G H : Hp) (σ : St) (s : S) : List V → List Ent → Prop
  | [], [] => True
  | v :: vs, e :: es => EntOk K c G H v e ∧ (isOb e = true → (∀ (j : Nat), ObAt s j → σ[j]? ≠ some (some v)) ∧ ∀ (j : Nat) e', es[j]? = some e' → isOb e' = true → vs[j]? ≠ some v) ∧ EntsOk K c G H σ s vs es
  | [], _ :: _ => False
  | _ :: _, [] => False
section
variable {K : PySem.W.Frag} {ex : ExT} {W : WX} {c : Act} {G H : Hp} {σ : St} {s : S} {p : Addr} {o : HO}
theorem EntsOk.unprot : ∀ {vs : List V} {es : List Ent}, EntsOk K (c.prot p o) G H σ s vs es → EntsOk K c G H σ s vs es ∧ ∀ (j : Nat) e', es[j]? = some e' → isOb e' = true → vs[j]? ≠ some (.ref p)
  | [], [], _ => ⟨trivial, fun j ds' h => by simp at h⟩
  | [], _ :: _, h => h.elim
  | _ :: _, [], h => h.elim
  | v :: vs, e :: es, ⟨h1, h2, h3⟩ => by
    obtain ⟨a, b⟩ := EntsOk.unprot h3
    have key : ∀ o', Ob K (c.prot p o) G H v o' → Ob K c G H v o' ∧ v ≠ .ref p := fun o' ⟨q, ho, ev, k1, k2, k3, k4, k5⟩ => by
      have k2 : upd c.H0 p o q = none := k2
      have hn : q ≠ p := fun z => by rw [z, upd_same] at k2; cases k2
      rw [upd_ne hn] at k2
      exact ⟨⟨q, ho, ev, k1, k2, k3, k4, k5⟩, fun z => by rw [ev] at z; cases z; exact hn rfl⟩
    refine ⟨⟨h1.conv (Same.refl _) rfl rfl rfl fun _ o' k => (key o' k).1, h2, a⟩, fun j e' h hb => ?_⟩
    cases j with
    | zero =>
      have ee : e = e' := by simpa using h
      subst ee
      obtain ⟨o', k⟩ := h1.ob hb
      intro z
      exact (key o' k).2 (by simpa using z)
    | succ j => simpa using b j e' (by simpa using h) hb
theorem Post.seqP {α β : Type} {r : R α} {g : α → S → R β} {M : β → Hp → Hp → S → Prop} {N : α → Hp → Hp → S → Prop} (pl : plB o = true) (h0 : c.H0 p = none) (g0 : c.G0 p = none) (wa : p ≠ c.wa) (h : Post K ex W c G σ M (r.bind g))
    (next : ∀ a s' G' H', Same G G' → Rel K c G' H' σ s' → Beside c G' H' σ s' p o → Post K ex W c G' σ M (g a s') → N a G' H' s') : Post K ex W (c.prot p o) G σ N r := by
  cases r with
  | ok a s => exact fun G2 H2 e2 r2 => let ⟨r3, b3⟩ := Rel.unprot pl h0 g0 wa r2; next a s G2 H2 e2 r3 b3 (Post.up h e2)
  | exc k as s => exact fun cls dx G2 H2 e2 r2 hx => h cls dx G2 H2 e2 (Rel.unprot pl h0 g0 wa r2).1 hx
  | bad => exact h
theorem EntsOk.len : ∀ {vs : List V} {es : List Ent}, EntsOk K c G H σ s vs es → vs.length = es.length
  | [], [], _ => rfl
  | [], _ :: _, h => h.elim
  | _ :: _, [], h => h.elim
  | _ :: _, _ :: _, ⟨_, _, h⟩ => by rw [List.length_cons, List.length_cons, EntsOk.len h]
theorem EntsOk.put {i : Nat} {v : V} {e : Ent} {vs : List V} {es : List Ent} (r : Rel K c G H σ s) (h : EntsOk K c G H σ s (v :: vs) (e :: es)) : Rel K c G H (σ.set i (some v)) (s.put i e) ∧ EntsOk K c G H (σ.set i (some v)) (s.put i e) vs es := by
  obtain ⟨h1, h2, h3⟩ := h
  refine ⟨r.put i h1 fun b j _ hj => (h2 b).1 j hj, ?_⟩
  have rest : ∀ (vs : List V) (es : List Ent), (isOb e = true → ∀ (j : Nat) e', es[j]? = some e' → isOb e' = true → vs[j]? ≠ some v) → EntsOk K c G H σ s vs es → EntsOk K c G H (σ.set i (some v)) (s.put i e) vs es := by
    intro vs
    induction vs with
    | nil => intro es; cases es with
      | nil => exact fun _ _ => trivial
      | cons _ _ => exact fun _ h => h.elim
    | cons u vs ih => intro es; cases es with
      | nil => exact fun _ h => h.elim
      | cons e' es =>
        intro hne ⟨k1, k2, k3⟩
        refine ⟨k1, fun b' => ⟨fun j hj => ?_, (k2 b').2⟩, ih es (fun b j e2 hj b2 => by simpa using hne b (j + 1) e2 (by simpa using hj) b2) k3⟩
        obtain ⟨e2, q2, b2⟩ := hj
        rcases put_get0 q2 with ⟨rfl, hl, rfl⟩ | ⟨hij, q2⟩
        · rw [List.getElem?_set_self (by rw [← r.len]; exact hl)]
          intro z
          exact hne b2 0 e' rfl b' (by simpa using (show v = u by simpa using z).symm)
        · rw [List.getElem?_set_ne hij]
          exact (k2 b').1 j ⟨e2, q2, b2⟩
  exact rest vs es (fun b => (h2 b).2) h3
end
def tX (K : PySem.W.Frag) (ex : ExT) (W : WX) (f : S → R (List Ent)) : TA := fun σ H Q => ∃ c G s, Rel K c G H σ s ∧ Post K ex W c G σ (fun es G' H' s' => ∀ vs, EntsOk K c G' H' σ s' vs es → Q vs H') (f s)
def putEs : List Nat → List Ent → S → O
  | [], [], s => .nx s
  | i :: is, e :: es, s => putEs is es (s.put i e)
  | _, _, _ => .bad
def sMix (is : List Nat) (f : S → R (List Ent)) : FO := fun s => (f s).stm fun es s => putEs is es s
section
variable {X : Cx} {ex : ExT} {W : WX}
theorem xNil : PA X [] (tX X.K ex W (fIts [])) := PA.imp pa_nil fun _ _ _ ⟨_, _, _, r, h⟩ => h _ _ (Same.refl _) r [] trivial
theorem xVal {e : Expr} {es : List Expr} {f : FE} {l : List FI} (hf : PE X e (tE X.K ex W f)) (hg : PA X es (tX X.K ex W (fIts l))) (hs : starEach (e :: es) X.env = (false, eval e X.env) :: starEach es X.env := by rfl) :
    PA X (e :: es) (tX X.K ex W (fIts (.inl f :: l))) := PA.imp (pa_cons hf hg hs) fun σ H Q ⟨c, _, _, r, h⟩ =>
  inE r h fun d s1 G1 H1 v e1 r1 hv h1 => ⟨_, G1, s1, r1, Post.seq h1 fun es s2 G2 H2 e2 r2 h2 vs hvs => h2.val' r2 (v :: vs) ⟨hv.up e2, (fun b => nomatch b), hvs⟩⟩
theorem xNew {e : Expr} {es : List Expr} {f : S → R Ent} {l : List FI} (hf : PE X e (tN X.K ex W f)) (hg : PA X es (tX X.K ex W (fIts l))) (hs : starEach (e :: es) X.env = (false, eval e X.env) :: starEach es X.env := by rfl) :
    PA X (e :: es) (tX X.K ex W (fIts (.inr f :: l))) := PA.imp (pa_cons hf hg hs) fun σ H Q ⟨c, _, _, r, h⟩ =>
  inN r h fun en s1 G1 H1 v e1 r1 hv h1 => by
    obtain ⟨k1, kb, k2⟩ := hv
    obtain ⟨o', p, ho, rfl, hG, h0, hw, hH, hok⟩ := k1.ob kb
    have b : Beside c G1 H1 σ s1 p ho := ⟨hH, hG, h0, hw, k2, hok.plb⟩
    have g0 : c.G0 p = none := r1.b.g0.free hG
    refine ⟨c.prot p ho, G1, s1, r1.prot b, Post.seqP hok.plb h0 g0 hw h1 fun es s2 G2 H2 e2 r2 b2 h2 vs hvs => ?_⟩
    obtain ⟨u1, u2⟩ := hvs.unprot
    refine h2.val' r2 (.ref p :: vs) ⟨k1.conv e2 rfl rfl rfl fun _ o'' ⟨q, ho', ev, w1, w2, w3, w4, w5⟩ => ?_, fun _ => ⟨b2.ne, u2⟩, u1⟩
    cases ev
    rw [hH] at w4
    cases w4
    exact ⟨p, ho, rfl, b2.g, h0, hw, b2.at_, w5.up e2⟩
theorem kMix2 {i0 i1 : Nat} {a b : Expr} {pos : Pos} {x y : Str} {px py pt : Pos} {kt k2 pt2} {fa : S → R (List Ent)} (hN : X.N.Nodup) (ha : PA X [a, b] (tX X.K ex W fa)) (hc : X.calm = true := by rfl) (hi : X.N[i0]? = some x := by rfl) (hj : X.N[i1]? = some y := by rfl) (hij : i0 ≠ i1 := by decide)
    (hx : X.env.scope.names.lookup x = some .local := by rfl) (hy : X.env.scope.names.lookup y = some .local := by rfl) (hw : swappedStores [.Tuple [.Name x px, .Name y py] kt pt] (.Tuple [a, b] k2 pt2) X.env = pure (some [x, y]) := by rfl)
    (hs : swapsWithSole [.Tuple [.Name x px, .Name y py] kt pt] (.Tuple [a, b] k2 pt2) pos.line X.env = pure false := by rfl) :
    PS X (.Assign [.Tuple [.Name x px, .Name y py] kt pt] (.Tuple [a, b] k2 pt2) pos) (tS X.K ex W (sMix [i0, i1] fa)) :=
  PS.imp (ps_par hc hN hi hj hij hx hy ha hw hs) fun En σ H ⟨c, G, s, r, h⟩ => by
    refine ⟨c, G, s, r, h.fromR fun es s1 G1 H1 e1 r1 h1 vs hv => ?_⟩
    have hl := hv.len
    match es, h1 with
    | [d1, d2], h1 =>
      match vs, hl, hv with
      | [v1, v2], _, hv =>
        obtain ⟨r2, hv2⟩ := hv.put (i := i0) r1
        obtain ⟨r3, _⟩ := hv2.put (i := i1) r2
        exact ⟨_, _, rfl, h1 _ G1 H1 (Same.refl _) r3⟩
    | [], h1 => exact h1.elim
    | [_], h1 => exact h1.elim
    | _ :: _ :: _ :: _, h1 => exact h1.elim
theorem kMix3 {i0 i1 i2 : Nat} {a b c : Expr} {pos : Pos} {x y z : Str} {px py pz pt : Pos} {kt k2 pt2} {fa : S → R (List Ent)} (hN : X.N.Nodup) (ha : PA X [a, b, c] (tX X.K ex W fa)) (hc : X.calm = true := by rfl) (hi : X.N[i0]? = some x := by rfl) (hj : X.N[i1]? = some y := by rfl) (hl : X.N[i2]? = some z := by rfl) (hij : i0 ≠ i1 := by decide) (hil : i0 ≠ i2 := by decide) (hjl : i1 ≠ i2 := by decide)
    (hx : X.env.scope.names.lookup x = some .local := by rfl) (hy : X.env.scope.names.lookup y = some .local := by rfl) (hz : X.env.scope.names.lookup z = some .local := by rfl) (hw : swappedStores [.Tuple [.Name x px, .Name y py, .Name z pz] kt pt] (.Tuple [a, b, c] k2 pt2) X.env = pure (some [x, y, z]) := by rfl)
    (hs : swapsWithSole [.Tuple [.Name x px, .Name y py, .Name z pz] kt pt] (.Tuple [a, b, c] k2 pt2) pos.line X.env = pure false := by rfl) :
    PS X (.Assign [.Tuple [.Name x px, .Name y py, .Name z pz] kt pt] (.Tuple [a, b, c] k2 pt2) pos) (tS X.K ex W (sMix [i0, i1, i2] fa)) :=
  PS.imp (ps_par3 hc hN hi hj hl hij hil hjl hx hy hz ha hw hs) fun En σ H ⟨c, G, s, r, h⟩ => by
    refine ⟨c, G, s, r, h.fromR fun es s1 G1 H1 e1 r1 h1 vs hv => ?_⟩
    have hl := hv.len
    match es, h1 with
    | [d1, d2, d3], h1 =>
      match vs, hl, hv with
      | [v1, v2, v3], _, hv =>
        obtain ⟨r2, hv2⟩ := hv.put (i := i0) r1
        obtain ⟨r3, hv3⟩ := hv2.put (i := i1) r2
        obtain ⟨r4, _⟩ := hv3.put (i := i2) r3
        exact ⟨_, _, _, rfl, h1 _ G1 H1 (Same.refl _) r4⟩
    | [], h1 => exact h1.elim
    | [_], h1 => exact h1.elim
    | [_, _], h1 => exact h1.elim
    | _ :: _ :: _ :: _ :: _, h1 => exact h1.elim
end
end PD
/-! PD15: instances of own classes: fields that are data, methods, C(..). -/
namespace PD
open PySem PySem.Spec L2
open PyProof.Rows hiding St
/-! ### fields -/
def putFD (f : Str) (d : D) : List (Str × D) → List (Str × D)
  | [] => [(f, d)]
  | (g, x) :: r => if g = f then (g, d) :: r else (g, x) :: putFD f d r
section
variable {K : PySem.W.Frag} {G : Hp}
theorem PrAll.look {α : Type} [BEq α] {l : List (α × V)} {m : List (α × D)} (h : PrAll K G l m) (f : α) : (∀ d, m.lookup f = some d → ∃ v, l.lookup f = some v ∧ Dp K G v d) ∧ (m.lookup f = none → l.lookup f = none) := by
  induction h with
  | nil => exact ⟨(fun _ e => nomatch e), fun _ => rfl⟩
  | @cons k v d l m h1 h2 ih =>
    rw [List.lookup_cons, List.lookup_cons]
    cases f == k with
    | true => exact ⟨fun d' e => (by cases e; exact ⟨v, rfl, h1⟩), (fun e => nomatch e)⟩
    | false => exact ih
theorem PrAll.putF {l : List (Str × V)} {m : List (Str × D)} (h : PrAll K G l m) {f : Str} {v : V} {d : D} (hv : Dp K G v d) : PrAll K G (L2.putF f v l) (putFD f d m) := by
  induction h with
  | nil => exact .cons hv .nil
  | @cons k u e l m h1 h2 ih =>
    unfold L2.putF putFD
    by_cases hk : k = f
    · rw [if_pos hk, if_pos hk]
      exact .cons hv h2
    · rw [if_neg hk, if_neg hk]
      exact .cons h1 ih
theorem PrAll.len {α : Type} {l : List (α × V)} {m : List (α × D)} (h : PrAll K G l m) : l.length = m.length := by
  induction h with
  | nil => rfl
  | cons _ _ ih => rw [List.length_cons, List.length_cons, ih]
end
/-! ### an object of a slot's, taken and put back -/
section
variable {K : PySem.W.Frag} {c : Act} {G H G' H' : Hp} {σ : St} {s : S} {w' : Wst} {p : Addr}
theorem Rel.takeOb {i : Nat} {e : Ent} (r : Rel K c G H σ s) (h : s.ρ[i]? = some (some e)) (hb : isOb e = true) : ∃ p ho, σ[i]? = some (some (.ref p)) ∧ Rel K c G H σ (s.drop i) ∧ Beside c G H σ (s.drop i) p ho ∧ EntOk K c G H (.ref p) e := by
  obtain ⟨v, hv, he⟩ := r.slot i _ h
  obtain ⟨o, p, ho, rfl, h1, h2, h3, h4, h5⟩ := he.ob hb
  refine ⟨p, ho, hv, r.forget i, ⟨h4, h1, h2, h3, fun j ⟨e', q, b⟩ => ?_, h5.plb⟩, he⟩
  obtain ⟨q, hij⟩ := drop_get q
  exact r.sep i j _ hij ⟨_, h, hb⟩ ⟨e', q, b⟩ hv
theorem Rel.backOb {i : Nat} {e : Ent} (r : Rel K c G H σ (s.drop i)) (hv : σ[i]? = some (some (.ref p))) (hne : ∀ (j : Nat), ObAt (s.drop i) j → σ[j]? ≠ some (some (.ref p))) (he : EntOk K c G H (.ref p) e) : Rel K c G H σ (s.put i e) := by
  have r3 := r.put i he fun _ j _ hj => hne j hj
  rw [put_same hv, drop_put] at r3
  exact r3
def hide (p : Addr) (H : Hp) : Hp := fun a => if a = p then none else H a
theorem hide_ne {p a : Addr} {H : Hp} (h : a ≠ p) : hide p H a = H a := if_neg h
theorem hide_some {p a : Addr} {H : Hp} {o : HO} (h : hide p H a = some o) : H a = some o ∧ a ≠ p := by
  unfold hide at h
  by_cases e : a = p
  · rw [if_pos e] at h; cases h
  · rw [if_neg e] at h; exact ⟨h, e⟩
theorem Rel.baseHide (r : Rel K c G H σ s) (p : Addr) : Base K ⟨c.wa, c.sc, G, hide p H, p, []⟩ G H s.w :=
  ⟨r.b.sub, r.b.wl, r.b.wf, r.b.scr, Same.refl _, fun a o e _ => (hide_some e).1, fun _ _ _ _ n => n, (fun _ h => nomatch h), r.b.ng⟩
theorem _root_.LamX.TabS.exh {H H' : Hp} {P p wa : Addr} {q : Str} {l : List V} {ho : HO} (t : LamX.TabS H P q) (hp : H p = some ho) (pl : plain ho = true) (hw : H wa = some (.lst l)) (h : ∀ a o, hide p H a = some o → a ≠ wa → H' a = some o) : LamX.TabS H' P q := by
  have hP := TabS.ne t hw rfl
  have hP2 := TabS.ne t hp pl
  obtain ⟨ps, h1, h2, h3⟩ := t
  refine ⟨ps, h _ _ ((hide_ne hP2).trans h1) hP, h2, fun pos cv hc => ?_⟩
  obtain ⟨c, e1, e2⟩ := h3 pos cv hc
  refine ⟨c, e1, h _ _ ((hide_ne fun z => ?_).trans e2) fun z => ?_⟩
  · rw [z, hp] at e2
    cases e2
    cases pl
  · rw [z, hw] at e2
    cases e2
/-- behind a call that may change the object at p -/
theorem Rel.afterHide {ho : HO} (r : Rel K c G H σ s) (hp : H p = some ho) (pl : plain ho = true) (h0 : c.H0 p = none) (hne : ∀ (j : Nat), ObAt s j → σ[j]? ≠ some (some (.ref p))) (b : Base K ⟨c.wa, c.sc, G, hide p H, p, []⟩ G' H' w') : Same G G' ∧ Rel K c G' H' σ { s with w := w' } := by
  have hid : ∀ {a : Addr} {o : HO}, H a = some o → a ≠ p → hide p H a = some o := fun e n => (hide_ne n).trans e
  have np : ∀ {a : Addr} {o : HO}, c.H0 a = some o → a ≠ p := fun e z => by rw [z, h0] at e; cases e
  refine ⟨b.g0, ⟨b.sub, b.wl, b.wf, b.scr, r.b.g0.trans b.g0, fun a o e n => b.h0 a o (hid (r.b.h0 a o e n) (np e)) n, fun a o e mu n => ?_, fun q hq => let ⟨t, g, h⟩ := r.b.tb q hq; ⟨t.exh hp pl r.b.wl b.h0, let ⟨_, z⟩ := TabS.at_ t; b.n0 _ _ (hid z (TabS.ne t hp pl)) rfl g, h⟩, b.ng⟩, r.len, fun i e q => ?_, r.sep⟩
  · by_cases ha : a = c.wa
    · rw [ha]
      exact b.wf
    · exact b.n0 a o (hid (r.b.h0 a o e ha) (np e)) mu (r.b.n0 a o e mu n)
  · obtain ⟨v, hv, he⟩ := r.slot i e q
    refine ⟨v, hv, he.conv b.g0 rfl rfl rfl fun bb o ⟨q', ho, ev, h1, h2, h3, h4, h5⟩ => ?_⟩
    have hq : q' ≠ p := fun z => hne i ⟨e, q, bb⟩ (by rw [hv, ev, z])
    exact ⟨q', ho, ev, b.n0 q' ho (hid h4 hq) (OcOk.mu h5) h1, h2, h3, b.h0 q' ho (hid h4 hq) h3, h5.up b.g0⟩
end
/-! ### what the walk asks of a class -/
structure ClsF (K : PySem.W.Frag) (cn : Str) (C : Addr) (fns : List Str) : Prop where
  at_ : PySem.W.nsIn K mainGlobals cn = some (some (.ref C))
  cl : Cls K C
  no : ∀ f ∈ fns, NoAttr K C f
inductive FRm where
  | ret (d : D) (fs : List (Str × D)) (w : Wst)
  | exc (k : Nat) (as : List D) (fs : List (Str × D)) (w : Wst)
  | bad
abbrev SemM := List (Str × D) → List D → Wst → FRm
/-- the instance at p has these fields -/
def InsAt (K : PySem.W.Frag) (G H : Hp) (cn : Str) (p : Addr) (fs : List (Str × D)) : Prop := ∃ C dx fvs, PySem.W.nsIn K mainGlobals cn = some (some (.ref C)) ∧ H p = some (.ins C dx fvs) ∧ PrAll K G fvs fs
def spM (K : PySem.W.Frag) (ex : ExT) (cn : Str) (n : Nat) (sem : SemM) : Sp := fun vs H Q E => ∃ (wa sc : Addr) (G H0 : Hp) (w : Wst) (fs : List (Str × D)) (ds : List D) (p : Addr) (vs' : List V), Base K ⟨wa, sc, G, H0, p, []⟩ G H w ∧ vs = V.ref p :: vs' ∧ ds.length = n ∧ DpAll K G vs' ds ∧
  InsAt K G H cn p fs ∧ G p = none ∧ H0 p = none ∧ p ≠ wa ∧
  match sem fs ds w with
  | .ret d fs' w' => ∀ v G' H', Base K ⟨wa, sc, G, H0, p, []⟩ G' H' w' → InsAt K G' H' cn p fs' → G' p = none → Dp K G' v d → Q v H'
  | .exc k as fs' w' => ∀ cls dx G' H', Base K ⟨wa, sc, G, H0, p, []⟩ G' H' w' → InsAt K G' H' cn p fs' → G' p = none → ExcIs K ex k as cls dx G' H' → E cls dx H'
  | .bad => False
def startM (N : Nat) (cn : Str) (fs : List (Str × D)) (ds : List D) (w : Wst) : S :=
  ⟨some (.ins true cn fs) :: ((ds.map fun d => some (Ent.val d)) ++ List.replicate (N - (1 + ds.length)) none), w⟩
def insAt (cn : Str) (s : S) (i : Nat) : Option (Bool × List (Str × D)) := match s.ρ[i]? with
  | some (some (.ins b n fs)) => if n = cn then some (b, fs) else none
  | _ => none
def outM (cn : Str) : O → FRm
  | .rt d s => match insAt cn s 0 with
    | some (true, fs) => .ret d fs s.w
    | _ => .bad
  | .nx s => match insAt cn s 0 with
    | some (true, fs) => .ret .none fs s.w
    | _ => .bad
  | .exc k as s => match insAt cn s 0 with
    | some (true, fs) => .exc k as fs s.w
    | _ => .bad
  | _ => .bad
def semOfM (N : Nat) (cn : Str) (f : FO) : SemM := fun fs ds w => outM cn (f (startM N cn fs ds w))
theorem insAt_eq {cn : Str} {s : S} {i : Nat} {b : Bool} {fs : List (Str × D)} (h : insAt cn s i = some (b, fs)) : s.ρ[i]? = some (some (.ins b cn fs)) := by
  unfold insAt at h
  split at h
  · rename_i b' n fs' e
    split at h
    · rename_i hn
      cases h
      rw [← hn]
      exact e
    · cases h
  · cases h
structure FnM (P : Program) (w : World) (K : PySem.W.Frag) (mg : Str → Option Value) (base : Heap) (ex : ExT) (k : Nat) (cn m : Str) (n : Nat) (sem : SemM) : Prop where
  ex : ∃ C f fd ps, PySem.W.nsIn K mainGlobals cn = some (some (.ref C)) ∧ Cls K C ∧ Meth K C m f ∧ FnOk P w K mg base (L2.CX P w) k f fd ps (spM K ex cn n sem) ∧ Binds K fd ps []
structure FnI (P : Program) (w : World) (K : PySem.W.Frag) (mg : Str → Option Value) (base : Heap) (ex : ExT) (k : Nat) (cn : Str) (n : Nat) (sem : SemM) : Prop where
  ex : ∃ C f fd ps, PySem.W.nsIn K mainGlobals cn = some (some (.ref C)) ∧ mg cn = some (.ref C) ∧ Mk K C f ∧ FnOk P w K mg base (L2.CX P w) k f fd ps (spM K ex cn n sem) ∧ Binds K fd ps []
section
variable {P : Program} {w : World} {K : PySem.W.Frag} {mg : Str → Option Value} {base : Heap} {ex : ExT}
theorem FnM.mono {j k : Nat} {cn m : Str} {n : Nat} {sem : SemM} (F : FnM P w K mg base ex j cn m n sem) (hk : j ≤ k) : FnM P w K mg base ex k cn m n sem := by
  obtain ⟨C, f, fd, ps, a, b, c, d, e⟩ := F.ex
  exact ⟨C, f, fd, ps, a, b, c, d.mono hk, e⟩
theorem FnI.mono {j k : Nat} {cn : Str} {n : Nat} {sem : SemM} (F : FnI P w K mg base ex j cn n sem) (hk : j ≤ k) : FnI P w K mg base ex k cn n sem := by
  obtain ⟨C, f, fd, ps, a, b, c, d, e⟩ := F.ex
  exact ⟨C, f, fd, ps, a, b, c, d.mono hk, e⟩
theorem startM_rel {c : Act} {G H : Hp} {w : Wst} {fs : List (Str × D)} {ds : List D} {p : Addr} {vs' : List V} {N : List Str} {cn : Str} (b : Base K c G H w) (hd : DpAll K G vs' ds) (hl : ds.length + 1 ≤ N.length)
    (hp : InsAt K G H cn p fs) (hG : G p = none) (h0 : c.H0 p = none) (hw : p ≠ c.wa) (hse : c.se = p) : Rel K c G H (start N (V.ref p :: vs')) (startM N.length cn fs ds w) := by
  have ev := hd.len
  have key : ∀ (i : Nat) e, (((ds.map fun d => some (Ent.val d)) ++ List.replicate (N.length - (1 + ds.length)) none)[i]? = some (some e)) → ∃ d v, e = .val d ∧ (vs'.map some ++ List.replicate (N.length - (vs'.length + 1)) none)[i]? = some (some v) ∧ Dp K G v d := fun i e q => by
    by_cases hi : i < ds.length
    · rw [List.getElem?_append_left (by simpa using hi), List.getElem?_map] at q
      cases z : ds[i]? with
      | none => rw [z] at q; cases q
      | some d =>
        rw [z] at q
        have q : Ent.val d = e := by simpa using q
        obtain ⟨v, hv, hvd⟩ := hd.get z
        refine ⟨d, v, q.symm, ?_, hvd⟩
        rw [List.getElem?_append_left (by simp; omega), List.getElem?_map, hv]
        rfl
    · rw [List.getElem?_append_right (by simp; omega)] at q
      have m := List.mem_of_getElem? q
      rw [List.mem_replicate] at m
      cases m.2
  have slot : ∀ (i : Nat) e, (startM N.length cn fs ds w).ρ[i]? = some (some e) → (i = 0 ∧ e = .ins true cn fs) ∨ ∃ i' d v, i = i' + 1 ∧ e = .val d ∧ (start N (V.ref p :: vs'))[i]? = some (some v) ∧ Dp K G v d := fun i e q => by
    cases i with
    | zero =>
      have q : Ent.ins true cn fs = e := by simpa [startM] using q
      exact .inl ⟨rfl, q.symm⟩
    | succ i =>
      have q : ((ds.map fun d => some (Ent.val d)) ++ List.replicate (N.length - (1 + ds.length)) none)[i]? = some (some e) := by simpa [startM] using q
      obtain ⟨d, v, e1, e2, e3⟩ := key i e q
      refine .inr ⟨i, d, v, rfl, e1, ?_, e3⟩
      unfold L2.start
      simpa using e2
  refine ⟨b, ?_, fun i e q => ?_, fun i j v n ⟨e1, q1, b1⟩ ⟨e2, q2, b2⟩ => ?_⟩
  · unfold startM L2.start
    simp
    omega
  · rcases slot i e q with ⟨rfl, rfl⟩ | ⟨i', d, v, rfl, rfl, e2, e3⟩
    · obtain ⟨C, dx, fvs, hn, hH, hpr⟩ := hp
      exact ⟨.ref p, rfl, ⟨p, _, rfl, hG, h0, hw, hH, C, dx, fvs, hn, rfl, hpr⟩, fun _ => by rw [hse]⟩
    · exact ⟨v, e2, e3⟩
  · rcases slot i e1 q1 with ⟨rfl, rfl⟩ | ⟨i', d, u, rfl, rfl, _, _⟩
    · rcases slot j e2 q2 with ⟨rfl, rfl⟩ | ⟨j', d, u, rfl, rfl, _, _⟩
      · exact absurd rfl n
      · cases b2
    · cases b1
theorem Rel.insAt0 {c : Act} {G H : Hp} {σ : St} {s : S} {cn : Str} {fs : List (Str × D)} (r : Rel K c G H σ s) (h : insAt cn s 0 = some (true, fs)) : InsAt K G H cn c.se fs ∧ G c.se = none := by
  obtain ⟨v, hv, ⟨q, ho, ev, h1, h2, h3, h4, C, dx, fvs, hn, rfl, hpr⟩, hs⟩ := r.slot 0 _ (insAt_eq h)
  have hs := hs rfl
  rw [ev] at hs
  cases hs
  exact ⟨⟨C, dx, fvs, hn, h4, hpr⟩, h1⟩
end
end PD
/-! PD16: instances: o.f, o.f = e, o.m(..), C(..), the defs of methods. -/
namespace PD
open PySem PySem.Spec L2
open PyProof.Rows hiding St
/-- name.f -/
def fFld (cn : Str) (i : Nat) (f : Str) : FE := fun s => match insAt cn s i with
  | some (_, fs) => R.of (fs.lookup f) s
  | none => .bad
/-- name.f = e -/
def sFldO (cn : Str) (i : Nat) (f : Str) (g : FE) : FO := fun s => (g s).stm fun d s => match insAt cn s i with
  | some (b, fs) => if fs.length < 1000 then .nx (s.put i (.ins b cn (putFD f d fs))) else .bad
  | none => .bad
def methR (cn : Str) (i : Nat) (b : Bool) (sem : SemM) (fs : List (Str × D)) (ds : List D) (s : S) : R D :=
  match sem fs ds s.w with
  | .ret d fs' w => .ok d (({ s with w := w } : S).put i (.ins b cn fs'))
  | .exc k as fs' w => .exc k as (({ s with w := w } : S).put i (.ins b cn fs'))
  | .bad => .bad
/-- name.m(..) -/
def fMeth (cn : Str) (i : Nat) (m : Str) (n : Nat) (sem : SemM) (f : FA) : FE := fun s => match insAt cn s i with
  | some (_, fs0) => if (fs0.lookup m).isNone = true then (f s).bind fun ds s => match insAt cn s i with
      | some (b, fs) => if ds.length = n then methR cn i b sem fs ds s else .bad
      | none => .bad
    else .bad
  | none => .bad
def newR (cn : Str) (sem : SemM) (ds : List D) (s : S) : R Ent :=
  match sem [] ds s.w with
  | .ret .none fs' w => .ok (.ins false cn fs') { s with w := w }
  | .exc k as _ w => .exc k as { s with w := w }
  | _ => .bad
/-- C(..) -/
def fNew (cn : Str) (n : Nat) (sem : SemM) (f : FA) : S → R Ent := fun s => (f s).bind fun ds s => if ds.length = n then newR cn sem ds s else .bad
def E0 (W : WX) : XK := fun cls d H => ∀ σ, W cls d σ H
theorem passE0 {X : Cx} {W : WX} (tk : Takes X W) : Passes (L2.CX X.prog X.w) X (E0 W) := fun _ σ' _ _ e s' I c => tk e s' (XE.of_call I (fun _ _ _ h => h σ') c)
/-- the wish does not look at the slots -/
def WFlat (W : WX) : Prop := ∀ cls d σ σ' H, W cls d σ H → W cls d σ' H
section
variable {X : Cx} {ex : ExT} {W : WX}
theorem eFld (i : Nat) {C : Addr} {cn f x : Str} {fns : List Str} {p pos : Pos} (T : ClsF X.K cn C fns) (hf : f ∈ fns := by decide) (hN : X.N[i]? = some x := by rfl) (hv : Vis X.env.scope x := by first | exact Or.inl rfl | exact Or.inr (Or.inl rfl) | exact Or.inr (Or.inr rfl))
    (hd : (x == ("__debug__" : Str)) = false := by decide) (hcd : (x == ("__classdict__" : Str)) = false := by decide) (hb : attributeBase (.Name x p) f X.env (eval (.Name x p) X.env) = eval (.Name x p) X.env := by rfl) :
    PE X (.Attribute (.Name x p) f pos) (tE X.K ex W (fFld cn i f)) := PE.imp (pe_fld (pe_var hN hv hd hcd) hb) fun σ H Q ⟨c, G, s, r, h⟩ => by
  have h : Post X.K ex W c G σ _ (match insAt cn s i with
    | some (_, fs) => R.of (fs.lookup f) s
    | none => .bad) := h
  cases z : insAt cn s i with
  | none => rw [z] at h; exact h.elim
  | some bf =>
    obtain ⟨b, fs⟩ := bf
    rw [z] at h
    obtain ⟨v, hv, ⟨q, ho, rfl, h1, h2, h3, h4, C', dx, fvs, hn, rfl, hpr⟩, _⟩ := r.slot i _ (insAt_eq z)
    have eC : C' = C := by
      have := hn.symm.trans T.at_
      cases this
      rfl
    subst eC
    cases y : fs.lookup f with
    | none => simp only [y] at h; exact h.elim
    | some d =>
      simp only [y] at h
      obtain ⟨u, hu, hd⟩ := (hpr.look f).1 d y
      exact ⟨_, hv, q, C', dx, fvs, u, rfl, h4, T.cl, T.no f hf, hu, h.val r hd⟩
theorem kFld (i : Nat) {C : Addr} {cn f x : Str} {fns : List Str} {value : Expr} {g : FE} {p pos pos' : Pos} (T : ClsF X.K cn C fns) (hg : PE X value (tE X.K ex W g)) (hf : f ∈ fns := by decide) (hN : X.N[i]? = some x := by rfl) (hv : Vis X.env.scope x := by first | exact Or.inl rfl | exact Or.inr (Or.inl rfl) | exact Or.inr (Or.inr rfl))
    (hd : (x == ("__debug__" : Str)) = false := by decide) (hcd : (x == ("__classdict__" : Str)) = false := by decide) (hs : swapsWith value (some (.Attribute (.Name x p) f pos')) pos.line X.env = pure false := by rfl) :
    PS X (.Assign [.Attribute (.Name x p) f pos'] value pos) (tS X.K ex W (sFldO cn i f g)) := PS.imp (ps_fld (pe_var hN hv hd hcd) hg hs) fun En σ H ⟨c, G, s, r, h⟩ => soE r h fun d s1 G1 H1 v e1 r1 hv h1 => by
  cases z : insAt cn s1 i with
  | none => rw [z] at h1; exact h1.elim
  | some bf =>
    obtain ⟨b, fs⟩ := bf
    rw [z] at h1
    by_cases hl : fs.length < 1000
    · simp only [hl, if_true] at h1
      have hz := insAt_eq z
      obtain ⟨q, ho, hq, r2, b2, ⟨⟨q', ho', e', k1, k2, k3, k4, C', dx, fvs, hn, rfl, hpr⟩, hs⟩⟩ := r1.takeOb hz rfl
      cases e'
      have hhe : ho = .ins C' dx fvs := by
        have := b2.at_
        rw [k4] at this
        exact (Option.some.inj this).symm
      have eC : C' = C := by
        have := hn.symm.trans T.at_
        cases this
        rfl
      subst eC
      obtain ⟨r3, b3⟩ := r2.setBeside b2 (.ins C' dx (L2.putF f v fvs))
      have r4 := r3.backOb (e := .ins b cn (putFD f d fs)) hq b3.ne ⟨⟨q, _, rfl, b3.g, b3.h0, b3.wa, b3.at_, C', dx, _, hn, rfl, hpr.putF hv⟩, hs⟩
      refine ⟨_, hq, q, C', dx, fvs, rfl, k4, T.cl, T.no f hf, by rw [hpr.len]; exact hl, ?_⟩
      exact h1 σ G1 _ (Same.refl _) r4
    · simp only [hl, if_false] at h1
      exact h1.elim
theorem meth_fin {c : Act} {G H : Hp} {σ : St} {s : S} {Q : VK} {cn : Str} {i n : Nat} {b : Bool} {sem : SemM} {fs : List (Str × D)} {ds : List D} {vs : List V} {p : Addr} (hW : WFlat W) (r : Rel X.K c G H σ s) (hz : s.ρ[i]? = some (some (.ins b cn fs))) (hp : σ[i]? = some (some (.ref p))) (hd : DpAll X.K G vs ds) (hl : ds.length = n)
    (q : Post X.K ex W c G σ (fun d G' H' _ => ∀ v, Dp X.K G' v d → Q v H') (methR cn i b sem fs ds s)) : spM X.K ex cn n sem (.ref p :: vs) H Q (E0 W) := by
  obtain ⟨p', ho, hp', r2, b2, ⟨⟨q', ho', e', k1, k2, k3, k4, C', dx, fvs, hn, rfl, hpr⟩, hs⟩⟩ := r.takeOb hz rfl
  cases e'
  rw [hp] at hp'
  cases hp'
  refine ⟨c.wa, c.sc, G, hide p H, s.w, fs, ds, p, vs, r.baseHide p, rfl, hl, hd, ⟨C', dx, fvs, hn, k4, hpr⟩, k1, if_pos rfl, k3, ?_⟩
  have back : ∀ {G' H' : Hp} {w' : Wst} {fs' : List (Str × D)}, Base X.K ⟨c.wa, c.sc, G, hide p H, p, []⟩ G' H' w' → InsAt X.K G' H' cn p fs' → G' p = none → Same G G' ∧ Rel X.K c G' H' σ (({ s with w := w' } : S).put i (.ins b cn fs')) := fun {G' H' w' fs'} bb hi hg => by
    obtain ⟨e1, r3⟩ := r2.afterHide b2.at_ (plB_pl b2.pl) b2.h0 b2.ne bb
    obtain ⟨C2, dx2, fvs2, hn2, hH2, hpr2⟩ := hi
    have r4 : Rel X.K c G' H' σ (({ s with w := w' } : S).drop i) := r3
    exact ⟨e1, r4.backOb hp b2.ne ⟨⟨p, _, rfl, hg, k2, k3, hH2, C2, dx2, fvs2, hn2, rfl, hpr2⟩, hs⟩⟩
  unfold methR at q
  cases z : sem fs ds s.w with
  | ret d fs' w' =>
    rw [z] at q
    intro v G' H' bb hi hg hvd
    obtain ⟨e1, r5⟩ := back bb hi hg
    exact q G' H' e1 r5 v hvd
  | exc k as fs' w' =>
    rw [z] at q
    intro cls dx' G' H' bb hi hg hx σ'
    obtain ⟨e1, r5⟩ := back bb hi hg
    exact hW _ _ _ _ _ (q cls dx' G' H' e1 r5 hx)
  | bad => rw [z] at q; exact q.elim
theorem eMeth (i : Nat) {k n : Nat} {cn m x : Str} {sem : SemM} {e : Expr} {es : List Expr} {f : FA} {p apos pos : Pos} {pl : Sem Bool} (F : FnM X.prog X.w X.K X.mg X.base ex k cn m n sem) (hr : Room k X.A) (tk : Takes X W) (hW : WFlat W) (ha : PA X (e :: es) (tA X.K ex W f))
    (hN : X.N[i]? = some x := by rfl) (hv : Vis X.env.scope x := by first | exact Or.inl rfl | exact Or.inr (Or.inl rfl) | exact Or.inr (Or.inr rfl))
    (hd : (x == ("__debug__" : Str)) = false := by decide) (hcd : (x == ("__classdict__" : Str)) = false := by decide) (hst : starEach (e :: es) X.env = (false, eval e X.env) :: starEach es X.env := by rfl) (hpl : (backTo pos (starEach es X.env)).any (·.1) = false := by rfl)
    (ht : eval (.Call (.Attribute (.Name x p) m apos) (e :: es) [] pos) X.env = (do
      let ov ← eval (.Name x p) X.env
      standAt apos.atName
      let (f, first) ← holding [ov] (getMethod ov m pl)
      callWith pos f first (backTo pos (starEach (e :: es) X.env)) (backToKw pos (keywordEach [] X.env))) := by rfl) :
    PE X (.Call (.Attribute (.Name x p) m apos) (e :: es) [] pos) (tE X.K ex W (fMeth cn i m n sem f)) := by
  obtain ⟨C, fa, fd, ps, hC, hcl, hm, ok, hb⟩ := F.ex
  refine PE.imp (pe_meth (pl := pl) (pe_var hN hv hd hcd) hcl hm ok hr hb .nil (passE0 tk) ha hst hpl ht) fun σ H Q ⟨c, G, s, r, h⟩ => ?_
  have h : Post X.K ex W c G σ _ (match insAt cn s i with
    | some (_, fs0) => if (fs0.lookup m).isNone = true then (f s).bind fun ds s => match insAt cn s i with
        | some (b, fs) => if ds.length = n then methR cn i b sem fs ds s else .bad
        | none => .bad
      else .bad
    | none => .bad) := h
  cases z : insAt cn s i with
  | none => rw [z] at h; exact h.elim
  | some bf =>
    obtain ⟨b, fs⟩ := bf
    rw [z] at h
    dsimp only at h
    obtain ⟨v, hv', ⟨q, ho, rfl, h1, h2, h3, h4, C', dx, fvs, hn, rfl, hpr⟩, _⟩ := r.slot i _ (insAt_eq z)
    have eC : C' = C := by
      have := hn.symm.trans hC
      cases this
      rfl
    subst eC
    cases y : fs.lookup m with
    | some d => simp only [y] at h; exact h.elim
    | none =>
      simp only [y] at h
      rw [if_pos (show (none : Option D).isNone = true from rfl)] at h
      refine ⟨_, hv', q, dx, fvs, rfl, h4, (hpr.look m).2 y, inA r h fun ds s1 G1 H1 vs e1 r1 hvs q1 => ?_⟩
      cases z1 : insAt cn s1 i with
      | none => rw [z1] at q1; exact q1.elim
      | some bf1 =>
        obtain ⟨b1, fs1⟩ := bf1
        rw [z1] at q1
        by_cases hl : ds.length = n
        · simp only [hl, if_true] at q1
          rw [List.append_nil]
          exact meth_fin hW r1 (insAt_eq z1) hv' hvs hl q1
        · simp only [hl, if_false] at q1
          exact q1.elim
theorem eMeth0 (i : Nat) {k : Nat} {cn m x : Str} {sem : SemM} {p apos pos : Pos} {pl : Sem Bool} (F : FnM X.prog X.w X.K X.mg X.base ex k cn m 0 sem) (hr : Room k X.A) (tk : Takes X W) (hW : WFlat W)
    (hN : X.N[i]? = some x := by rfl) (hv : Vis X.env.scope x := by first | exact Or.inl rfl | exact Or.inr (Or.inl rfl) | exact Or.inr (Or.inr rfl))
    (hd : (x == ("__debug__" : Str)) = false := by decide) (hcd : (x == ("__classdict__" : Str)) = false := by decide)
    (ht : eval (.Call (.Attribute (.Name x p) m apos) [] [] pos) X.env = (do
      let ov ← eval (.Name x p) X.env
      standAt apos.atName
      let (f, first) ← holding [ov] (getMethod ov m pl)
      callWith pos f first (backTo pos (starEach [] X.env)) (backToKw pos (keywordEach [] X.env))) := by rfl) :
    PE X (.Call (.Attribute (.Name x p) m apos) [] [] pos) (tE X.K ex W (fMeth cn i m 0 sem fNil)) := by
  obtain ⟨C, fa, fd, ps, hC, hcl, hm, ok, hb⟩ := F.ex
  refine PE.imp (pe_meth0 (pl := pl) (pe_var hN hv hd hcd) hcl hm ok hr hb .nil (passE0 tk) ht) fun σ H Q ⟨c, G, s, r, h⟩ => ?_
  have h : Post X.K ex W c G σ _ (match insAt cn s i with
    | some (_, fs0) => if (fs0.lookup m).isNone = true then match insAt cn s i with
        | some (b, fs) => if ([] : List D).length = 0 then methR cn i b sem fs [] s else .bad
        | none => .bad
      else .bad
    | none => .bad) := h
  cases z : insAt cn s i with
  | none => rw [z] at h; exact h.elim
  | some bf =>
    obtain ⟨b, fs⟩ := bf
    rw [z] at h
    dsimp only at h
    obtain ⟨v, hv', ⟨q, ho, rfl, h1, h2, h3, h4, C', dx, fvs, hn, rfl, hpr⟩, _⟩ := r.slot i _ (insAt_eq z)
    have eC : C' = C := by
      have := hn.symm.trans hC
      cases this
      rfl
    subst eC
    cases y : fs.lookup m with
    | some d => simp only [y] at h; exact h.elim
    | none =>
      simp only [y] at h
      rw [if_pos (show (none : Option D).isNone = true from rfl), if_pos (show ([] : List D).length = 0 from rfl)] at h
      refine ⟨_, hv', q, dx, fvs, rfl, h4, (hpr.look m).2 y, ?_⟩
      exact meth_fin hW r (insAt_eq z) hv' .nil rfl h
theorem nNew {k n : Nat} {cn : Str} {sem : SemM} {e : Expr} {es : List Expr} {f : FA} {p pos : Pos} (F : FnI X.prog X.w X.K X.mg X.base ex k cn n sem) (hr : Room (k + 1) X.A) (tk : Takes X W) (hW : WFlat W) (ha : PA X (e :: es) (tA X.K ex W f)) (hg : Gl X cn := by rfl)
    (hdb : (cn == ("__debug__" : Str)) = false := by decide) (he : starEach (e :: es) X.env = (false, eval e X.env) :: starEach es X.env := by rfl) (hpl : (backTo pos (starEach es X.env)).any (·.1) = false := by rfl) :
    PE X (.Call (.Name cn p) (e :: es) [] pos) (tN X.K ex W (fNew cn n sem f)) := by
  obtain ⟨C, fa, fd, ps, hC, hm, mk, ok, hb⟩ := F.ex
  refine PE.imp (pe_make mk ok hr hg hm hb .nil (passE0 tk) ha hdb he hpl) fun σ H Q ⟨c, G, s, r, q⟩ => inA r q fun ds s1 G1 H1 vs e1 r1 hvs q1 => ?_
  by_cases hl : ds.length = n
  · rw [if_pos hl] at q1
    intro x dx hx hdx hne
    obtain ⟨r2, _⟩ := r1.newOb (ho := .own x) hdx
    have hx2 : upd H1 dx (.own x) x = none := by rw [upd_ne hne.symm]; exact hx
    obtain ⟨r3, g3, h03, w3, n3⟩ := r2.newOb (ho := .ins C dx []) hx2
    rw [List.append_nil]
    refine ⟨c.wa, c.sc, G1, hide x (upd (upd H1 dx (.own x)) x (.ins C dx [])), s1.w, [], ds, x, vs, r3.baseHide x, rfl, hl, hvs, ⟨C, dx, [], hC, upd_same, .nil⟩, g3, if_pos rfl, w3, ?_⟩
    unfold newR at q1
    cases z : sem [] ds s1.w with
    | ret d fs' w' =>
      rw [z] at q1
      cases d with
      | none =>
        intro v G' H' bb hi hg hvd
        obtain ⟨e2, r4⟩ := r3.afterHide upd_same rfl h03 n3 bb
        obtain ⟨C2, dx2, fvs2, hn2, hH2, hpr2⟩ := hi
        cases hvd
        exact ⟨rfl, q1 G' H' e2 r4 (.ref x) ⟨⟨⟨x, _, rfl, hg, h03, w3, hH2, C2, dx2, fvs2, hn2, rfl, hpr2⟩, fun z => nomatch z⟩, rfl, n3⟩⟩
      | _ => exact q1.elim
    | exc k as fs' w' =>
      rw [z] at q1
      intro cls dx' G' H' bb hi hg hx σ'
      obtain ⟨e2, r4⟩ := r3.afterHide upd_same rfl h03 n3 bb
      exact hW _ _ _ _ _ (q1 cls dx' G' H' e2 r4 hx)
    | bad => rw [z] at q1; exact q1.elim
  · rw [if_neg hl] at q1
    exact q1.elim
end
/-! ### the defs of methods -/
section
variable {P : Program} {w : World} {K : PySem.W.Frag} {mg : Str → Option Value} {base : Heap} {ex : ExT}
theorem fnM0 {m qual cn : Str} {st : Stmt} {f : Addr} {fd : FuncData} {N ps : List Str} {k n : Nat} {fb : FO} (F : Fun K m qual st f fd) (Sc : FnScope N ps (defScope st)) (hn : n + 1 = ps.length)
    (hN : ps.length ≤ N.length)
    (body : ∀ (cdv : Value) (A : Around) (outer : List Env) (s : Shared) (H : Hp) (E : XK), Room k (A.deeper (envOfC qual (defScope st) s.heap.objs.size f cdv)) →
      PSs (cxOf (L2.CX P w) P w K mg base N qual (defScope st) f cdv A outer s H E) (defBody st) (tS K ex (fun cls d _ H => E cls d H) fb)) :
    FnOk P w K mg base (L2.CX P w) (k + 1) f fd ps (spM K ex cn n (semOfM N.length cn fb)) := by
  refine F.okX Sc (fun vs H Q E hh => ?_) (fun cdv A outer s H vs Q E hr hh => ⟨_, body cdv A outer s H E hr, ?_⟩)
  · obtain ⟨wa, sc, G, H0, w, fs, ds, p, vs', _, e, hl, hd, _⟩ := hh
    have z := hd.len
    subst e
    rw [List.length_cons]
    omega
  · obtain ⟨wa, sc, G, H0, w, fs, ds, p, vs', b, rfl, hl, hd, hi, hG, h0, hw, q⟩ := hh
    refine ⟨⟨wa, sc, G, H0, p, []⟩, G, startM N.length cn fs ds w, startM_rel b hd (by omega) hi hG h0 hw rfl, ?_⟩
    unfold semOfM at q
    cases z : fb (startM N.length cn fs ds w) with
    | nx s' =>
      rw [z] at q
      unfold outM at q
      dsimp only at q
      cases hz : insAt cn s' 0 with
      | none => rw [hz] at q; exact q.elim
      | some bf =>
       obtain ⟨bb, fs'⟩ := bf
       rw [hz] at q
       cases bb with
       | false => exact q.elim
       | true =>
        exact fun σ' G' H' _ r' => by
          obtain ⟨i1, i2⟩ := r'.insAt0 hz
          exact q _ G' H' r'.b i1 i2 .non
    | rt d s' =>
      rw [z] at q
      unfold outM at q
      dsimp only at q
      cases hz : insAt cn s' 0 with
      | none => rw [hz] at q; exact q.elim
      | some bf =>
       obtain ⟨bb, fs'⟩ := bf
       rw [hz] at q
       cases bb with
       | false => exact q.elim
       | true =>
        exact fun v σ' G' H' _ r' hv => by
          obtain ⟨i1, i2⟩ := r'.insAt0 hz
          exact q _ G' H' r'.b i1 i2 hv
    | exc k as s' =>
      rw [z] at q
      unfold outM at q
      dsimp only at q
      cases hz : insAt cn s' 0 with
      | none => rw [hz] at q; exact q.elim
      | some bf =>
       obtain ⟨bb, fs'⟩ := bf
       rw [hz] at q
       cases bb with
       | false => exact q.elim
       | true =>
        exact fun cls dx σ' G' H' _ r' hx => by
          obtain ⟨i1, i2⟩ := r'.insAt0 hz
          exact q _ _ G' H' r'.b i1 i2 hx
    | bk s' => rw [z] at q; exact q.elim
    | ct s' => rw [z] at q; exact q.elim
    | bad => rw [z] at q; exact q.elim
theorem fnM {m qual cn : Str} {C : Addr} {fns : List Str} {st : Stmt} {f : Addr} {fd : FuncData} {N ps : List Str} {k n : Nat} {fb : FO} (T : ClsF K cn C fns) (M : Meth K C m f) (F : Fun K m qual st f fd) (Sc : FnScope N ps (defScope st)) (hn : n + 1 = ps.length)
    (hN : ps.length ≤ N.length)
    (body : ∀ (cdv : Value) (A : Around) (outer : List Env) (s : Shared) (H : Hp) (E : XK), Room k (A.deeper (envOfC qual (defScope st) s.heap.objs.size f cdv)) →
      PSs (cxOf (L2.CX P w) P w K mg base N qual (defScope st) f cdv A outer s H E) (defBody st) (tS K ex (fun cls d _ H => E cls d H) fb))
    (hb : Binds K fd ps []) : FnM P w K mg base ex (k + 1) cn m n (semOfM N.length cn fb) :=
  ⟨C, f, fd, ps, T.at_, T.cl, M, fnM0 F Sc hn hN body, hb⟩
theorem fnI {qual cn : Str} {C : Addr} {fns : List Str} {st : Stmt} {f : Addr} {fd : FuncData} {N ps : List Str} {k n : Nat} {fb : FO} (T : ClsF K cn C fns) (M : Mk K C f) (hm : mg cn = some (.ref C)) (F : Fun K "__init__" qual st f fd) (Sc : FnScope N ps (defScope st)) (hn : n + 1 = ps.length)
    (hN : ps.length ≤ N.length)
    (body : ∀ (cdv : Value) (A : Around) (outer : List Env) (s : Shared) (H : Hp) (E : XK), Room k (A.deeper (envOfC qual (defScope st) s.heap.objs.size f cdv)) →
      PSs (cxOf (L2.CX P w) P w K mg base N qual (defScope st) f cdv A outer s H E) (defBody st) (tS K ex (fun cls d _ H => E cls d H) fb))
    (hb : Binds K fd ps []) : FnI P w K mg base ex (k + 1) cn n (semOfM N.length cn fb) :=
  ⟨C, f, fd, ps, T.at_, hm, M, fnM0 F Sc hn hN body, hb⟩
theorem fnM_bad {m qual cn : Str} {C : Addr} {fns : List Str} {st : Stmt} {f : Addr} {fd : FuncData} {ps : List Str} {k n : Nat} (T : ClsF K cn C fns) (M : Meth K C m f) (F : Fun K m qual st f fd) (hb : Binds K fd ps []) (hn : n + 1 = ps.length) : FnM P w K mg base ex k cn m n (fun _ _ _ => .bad) :=
  ⟨C, f, fd, ps, T.at_, T.cl, M, ⟨fun vs H Q E ⟨_, _, _, _, _, _, ds, _, vs', _, e, hl, hd, _⟩ => (by subst e; have := hd.len; rw [List.length_cons]; omega), fun _ _ _ _ _ _ _ _ _ _ _ _ _ ⟨_, _, _, _, _, _, _, _, _, _, _, _, _, _, _, _, _, q⟩ => q.elim⟩, hb⟩
end
end PD
/-! PD17: dicts of ints and texts: d[k], d[k] = v, displays, dict(d), d.update(..), dict comprehensions. -/
namespace PD
open PySem PySem.Spec L2
open PyProof.Rows hiding St
/-! ### plain functions -/
def kD : D → Option Key
  | .int i => some (.inl i)
  | .str x => some (.inr x)
  | _ => none
theorem kD_keyD (k : Key) : kD (keyD k) = some k := by cases k <;> rfl
def lkD (es : List (Key × D)) (k : Key) : Option D := (es.find? fun p => decide (p.1 = k)).map (·.2)
def putKD (es : List (Key × D)) (k : Key) (d : D) : List (Key × D) :=
  if (es.any fun p => decide (p.1 = k)) = true then es.map (fun p => if p.1 = k then (p.1, d) else p) else es ++ [(k, d)]
def mergeKD (es more : List (Key × D)) : List (Key × D) := more.foldl (fun acc p => putKD acc p.1 p.2) es
def kesD : List (D × D) → Option (List (Key × D))
  | [] => some []
  | (k, d) :: r => (kD k).bind fun k => (kesD r).map fun l => (k, d) :: l
section
variable {K : PySem.W.Frag} {G : Hp}
theorem PrAll.find {l : List (Key × V)} {m : List (Key × D)} (h : PrAll K G l m) (k : Key) : (∀ d, lkD m k = some d → ∃ v, valV l k = some v ∧ Dp K G v d) ∧ (lkD m k = none → valV l k = none) := by
  induction h with
  | nil => exact ⟨(fun _ e => nomatch e), fun _ => rfl⟩
  | @cons k' v d l m h1 h2 ih =>
    by_cases hk : k' = k
    · subst hk
      have e1 : lkD ((k', d) :: m) k' = some d := by simp [lkD, List.find?_cons]
      have e2 : valV ((k', v) :: l) k' = some v := by simp [valV, List.find?_cons]
      rw [e1, e2]
      exact ⟨fun d' e => (by cases e; exact ⟨v, rfl, h1⟩), (fun e => nomatch e)⟩
    · have e1 : lkD ((k', d) :: m) k = lkD m k := by simp [lkD, List.find?_cons, hk]
      have e2 : valV ((k', v) :: l) k = valV l k := by simp [valV, List.find?_cons, hk]
      rw [e1, e2]
      exact ih
theorem PrAll.any {l : List (Key × V)} {m : List (Key × D)} (h : PrAll K G l m) (k : Key) : (l.any fun p => decide (p.1 = k)) = (m.any fun p => decide (p.1 = k)) := by
  induction h with
  | nil => rfl
  | cons _ _ ih => rw [List.any_cons, List.any_cons, ih]
theorem PrAll.putK {l : List (Key × V)} {m : List (Key × D)} (h : PrAll K G l m) {k : Key} {v : V} {d : D} (hv : Dp K G v d) : PrAll K G (L2.putK l k v) (putKD m k d) := by
  unfold L2.putK putKD
  rw [h.any k]
  by_cases a : (m.any fun p => decide (p.1 = k)) = true
  · rw [if_pos a, if_pos a]
    clear a
    induction h with
    | nil => exact .nil
    | @cons k' u e l m h1 h2 ih =>
      rw [List.map_cons, List.map_cons]
      by_cases hk : k' = k
      · simp only [hk, if_true]
        exact .cons hv ih
      · simp only [hk, if_false]
        exact .cons h1 ih
  · rw [if_neg a, if_neg a]
    clear a
    induction h with
    | nil => exact .cons hv .nil
    | cons h1 _ ih => exact .cons h1 ih
theorem PrAll.merge {l2 : List (Key × V)} {m2 : List (Key × D)} (h2 : PrAll K G l2 m2) : ∀ {l : List (Key × V)} {m : List (Key × D)}, PrAll K G l m → PrAll K G (mergeK l l2) (mergeKD m m2) := by
  induction h2 with
  | nil => exact fun h => h
  | cons h1 _ ih => exact fun h => ih (h.putK h1)
theorem DpKvs.pr : ∀ {l : List (Key × V)} {es : List (D × D)}, DpKvs K G l es → ∃ m, kesD es = some m ∧ PrAll K G l m ∧ es = m.map fun p => (keyD p.1, p.2)
  | [], [], _ => ⟨[], rfl, .nil, rfl⟩
  | _ :: _, _ :: _, h => by
    cases h with
    | cons h1 h2 =>
      obtain ⟨m, e1, e2, e3⟩ := DpKvs.pr h2
      exact ⟨_ :: m, by rw [kesD, kD_keyD, Option.bind_some, e1]; rfl, .cons h1 e2, by rw [List.map_cons, e3]⟩
end
@[simp] theorem kesD_dic (m : List (Key × D)) : kesD (m.map fun p => (keyD p.1, p.2)) = some m := by
  induction m with
  | nil => rfl
  | cons p m ih => rw [List.map_cons, kesD, kD_keyD, Option.bind_some, ih]; rfl
/-! ### d[k] -/
/-- an item of a list, a tuple, a text, a dict -/
def dIxX (a b : D) : Option D := match a with
  | .dict es => (kesD es).bind fun m => (kD b).bind fun k => lkD m k
  | a => dIx a b
def fIxX (i : Nat) (g : FE) : FE := fun s => match look s i with
  | none => .bad
  | some _ => (g s).bind fun b s => R.of ((look s i).bind fun a => dIxX a b) s
theorem PE.or {X : Cx} {e : Expr} {t t' : TE} (h : PE X e t) (h' : PE X e t') : PE X e (fun σ H Q => t σ H Q ∨ t' σ H Q) := ⟨fun pins s σ H Q I q => q.elim (h.run pins s σ H Q I) (h'.run pins s σ H Q I)⟩
theorem PS.or {X : Cx} {st : Stmt} {t t' : TS} (h : PS X st t) (h' : PS X st t') : PS X st (fun D σ H => t D σ H ∨ t' D σ H) := ⟨fun pins s σ H D I q => q.elim (h.run pins s σ H D I) (h'.run pins s σ H D I)⟩
theorem kV_of {K : PySem.W.Frag} {G : Hp} {v : V} {d : D} {k : Key} (h : Dp K G v d) (e : kD d = some k) : v = kV k := by
  cases h with
  | int i => cases e; rfl
  | str x => cases e; rfl
  | _ => cases e
theorem hu1 {A : Around} {k : Nat} (hr : Room k A) : A.units + 1 < cLine := by have := hr.un; omega
theorem Rel.lookD {K : PySem.W.Frag} {c : Act} {G H : Hp} {σ : St} {s : S} {i : Nat} {es : List (D × D)} (r : Rel K c G H σ s) (h : PD.look s i = some (.dict es)) :
    ∃ p kvs m, σ[i]? = some (some (.ref p)) ∧ H p = some (.dK kvs) ∧ kesD es = some m ∧ PrAll K G kvs m := by
  unfold PD.look at h
  split at h
  · rename_i d' hd
    obtain ⟨v, hv, he⟩ := r.slot i _ hd
    cases h
    have he : Dp K G v (.dict es) := he
    cases he with
    | @dct a kvs es hH hkv =>
      obtain ⟨m, m1, m2, _⟩ := hkv.pr
      exact ⟨a, kvs, m, hv, r.b.sub _ _ hH, m1, m2⟩
  · cases h
  · rename_i m hd
    obtain ⟨v, hv, p, ho, rfl, _, _, _, h4, ⟨kvs, rfl, h5⟩⟩ := r.slot i _ hd
    cases h
    exact ⟨p, kvs, m, hv, h4, kesD_dic m, h5⟩
  · cases h
def isDL (i : Nat) (g : FE) (s : S) : Bool := match g s with
  | .ok _ s1 => (match look s1 i with
    | some (.dict _) => true
    | _ => false)
  | _ => false
theorem fIx_eq {i : Nat} {g : FE} {s : S} (h : isDL i g s = false) : fIxX i g s = fIxS i g s := by
  unfold fIxX fIxS
  unfold isDL at h
  cases look s i with
  | none => rfl
  | some a =>
    dsimp only
    cases z : g s with
    | bad => rfl
    | exc k as s1 => rfl
    | ok d s1 =>
      rw [z] at h
      simp only [R.bind_ok]
      dsimp only at h
      cases z2 : look s1 i with
      | none => rfl
      | some a1 =>
        rw [z2] at h
        cases a1 with
        | dict es => cases h
        | _ => rfl
section
variable {X : Cx} {ex : ExT} {W : WX}
theorem eIxX (i : Nat) {k : Nat} {x : Str} {b : Expr} {g : FE} {pos p : Pos} (hr : Room k X.A) (hg : PE X b (tE X.K ex W g)) (hN : X.N[i]? = some x := by rfl) (hv : Vis X.env.scope x := by first | exact Or.inl rfl | exact Or.inr (Or.inl rfl) | exact Or.inr (Or.inr rfl))
    (hd : (x == ("__debug__" : Str)) = false := by decide) (hcd : (x == ("__classdict__" : Str)) = false := by decide) (hs : PlainIx b := by exact fun _ _ => rfl) (hns : NoSl b := by exact fun _ _ => rfl) : PE X (.Subscript (.Name x p) b pos) (tE X.K ex W (fIxX i g)) := by
  refine PE.imp (PE.or (eIxS (ex := ex) (W := W) i hg hN hv hd hcd hs) (pe_dget (hu1 hr) (pe_var (i := i) hN hv hd hcd) hg hns)) fun σ H Q ⟨c, G, s, r, h⟩ => ?_
  cases hi : isDL i g s with
  | false => exact .inl ⟨c, G, s, r, by rw [← fIx_eq hi]; exact h⟩
  | true =>
    have h : Post X.K ex W c G σ (fun d G' H' _ => ∀ v, Dp X.K G' v d → Q v H') (match look s i with
      | none => .bad
      | some _ => (g s).bind fun b s => R.of ((look s i).bind fun a => dIxX a b) s) := h
    cases z0 : look s i with
    | none => rw [z0] at h; exact h.elim
    | some a0 =>
      rw [z0] at h
      obtain ⟨v, hv', hd0⟩ := r.look z0
      dsimp only at h
      cases z1 : g s with
      | bad => unfold isDL at hi; rw [z1] at hi; cases hi
      | exc k as s1 => unfold isDL at hi; rw [z1] at hi; cases hi
      | ok b s1 =>
      rw [z1] at h
      simp only [R.bind_ok] at h
      refine .inr ⟨v, hv', c, G, s, r, ?_⟩
      rw [z1]
      intro G1 H1 e1 r1 u hu
      have h1 := h.up e1
      cases z2 : look s1 i with
      | none => rw [z2] at h1; exact h1.elim
      | some a1 =>
        rw [z2] at h1
        simp only [Option.bind_some] at h1
        have hdic : ∀ es, a1 = .dict es → ∃ a w, v = .ref a ∧ DGet H1 a u (some w) ∧ Q w H1 := fun es ea => by
          subst ea
          obtain ⟨p', kvs, m, q1, q2, q3, q4⟩ := r1.lookD z2
          rw [hv'] at q1
          cases q1
          cases kz : kD b with
          | none => simp only [dIxX, q3, Option.bind_some, kz, Option.bind_none] at h1; exact h1.elim
          | some k =>
            cases lz : lkD m k with
            | none => simp only [dIxX, q3, Option.bind_some, kz, lz] at h1; exact h1.elim
            | some dd =>
              simp only [dIxX, q3, Option.bind_some, kz, lz] at h1
              obtain ⟨w, hw, hwd⟩ := (q4.find k).1 dd lz
              have hku := kV_of hu kz
              subst hku
              refine ⟨p', w, rfl, ?_, h1.val r1 hwd⟩
              rw [← hw]
              exact .inl ⟨kvs, k, .inl q2, rfl, rfl⟩
        cases a1 with
        | dict es => exact hdic es rfl
        | _ =>
          unfold isDL at hi
          rw [z1] at hi
          dsimp only at hi
          rw [z2] at hi
          cases hi
end
end PD
/-! PD18: d[k] = v, displays, dict(d), d.update(..), dict comprehensions. -/
namespace PD
open PySem PySem.Spec L2
open PyProof.Rows hiding St
def isDic (s : S) (i : Nat) : Bool := match s.ρ[i]? with
  | some (some (.dic _)) => true
  | _ => false
/-- name[k] = e, a dict of its own -/
def sSetD (i : Nat) (f g : FE) : FO := fun s => (f s).stm fun d s => match look s i with
  | none => .bad
  | some _ => (g s).stm fun j s => match s.ρ[i]?, kD j with
    | some (some (.dic es)), some k => if es.length < sizeLine then .nx (s.put i (.dic (putKD es k d))) else .bad
    | _, _ => .bad
section
variable {K : PySem.W.Frag} {c : Act} {G H : Hp} {σ : St} {s : S} {p : Addr}
/-- a slot's dict is changed -/
theorem Rel.setDic {i : Nat} {es es' : List (Key × D)} {kvs' : List (Key × V)} (r : Rel K c G H σ s) (h : s.ρ[i]? = some (some (.dic es))) (hv : σ[i]? = some (some (.ref p))) (hd : PrAll K G kvs' es') : Rel K c G (upd H p (.dK kvs')) σ (s.put i (.dic es')) := by
  obtain ⟨q, ho, hq, r2, b2, he⟩ := r.takeOb h rfl
  rw [hv] at hq
  cases hq
  obtain ⟨r3, b3⟩ := r2.setBeside b2 (.dK kvs')
  exact r3.backOb hv b3.ne ⟨p, _, rfl, b3.g, b3.h0, b3.wa, b3.at_, kvs', rfl, hd⟩
theorem Rel.dicAt {i : Nat} {es : List (Key × D)} (r : Rel K c G H σ s) (h : s.ρ[i]? = some (some (.dic es))) : ∃ p kvs, σ[i]? = some (some (.ref p)) ∧ H p = some (.dK kvs) ∧ PrAll K G kvs es := by
  obtain ⟨v, hv, p, ho, rfl, _, _, _, h4, ⟨kvs, rfl, h5⟩⟩ := r.slot i _ h
  exact ⟨p, kvs, hv, h4, h5⟩
end
section
variable {X : Cx} {ex : ExT} {W : WX}
theorem kSetD (i : Nat) {k : Nat} {x : Str} {e ix : Expr} {f g : FE} {p spos pos : Pos} (hr : Room k X.A) (he : PE X e (tE X.K ex W f)) (hg : PE X ix (tE X.K ex W g)) (hN : X.N[i]? = some x := by rfl) (hv : Vis X.env.scope x := by first | exact Or.inl rfl | exact Or.inr (Or.inl rfl) | exact Or.inr (Or.inr rfl))
    (hd : (x == ("__debug__" : Str)) = false := by decide) (hcd : (x == ("__classdict__" : Str)) = false := by decide) (hs : swapsWith e (some (.Subscript (.Name x p) ix spos)) pos.line X.env = pure false := by rfl) :
    PS X (.Assign [.Subscript (.Name x p) ix spos] e pos) (tS X.K ex W (sSetD i f g)) :=
  PS.imp (ps_dput (hu1 hr) (pe_var hN hv hd hcd) hg he hs) fun En σ H ⟨c, G, s, r, h⟩ => soE r h fun d s1 G1 H1 v e1 r1 hv h1 => by
    cases z : look s1 i with
    | none => simp only [z] at h1; exact h1.elim
    | some d0 =>
      simp only [z] at h1
      obtain ⟨u, hu, _⟩ := r1.look z
      refine ⟨u, hu, soE r1 h1 fun j s2 G2 H2 v2 e2 r2 hv2 h2 => ?_⟩
      split at h2
      · rename_i es k hes hk
        obtain ⟨p', kvs, q1, q2, q3⟩ := r2.dicAt hes
        rw [hu] at q1
        cases q1
        by_cases hl : es.length < sizeLine
        · rw [if_pos hl] at h2
          have ek := kV_of hv2 hk
          subst ek
          exact ⟨p', _, rfl, .inl ⟨kvs, k, q2, rfl, by rw [q3.len]; exact hl, rfl⟩, h2 σ G2 _ (Same.refl _) (r2.setDic hes hu (q3.putK (hv.up e2)))⟩
        · rw [if_neg hl] at h2
          exact h2.elim
      · exact h2.elim
/-! ### dict(e), e a dict -/
def fDict (f : FE) : S → R Ent := fun s => (f s).bind fun d s => match d with
  | .dict es => (R.of (kesD es) s).bind fun m s => .ok (.dic m) s
  | _ => .bad
theorem nDict {e : Expr} {f : FE} {p pos : Pos} (hm : X.mg "dict" = none) (he : PE X e (tE X.K ex W f)) (hg : Gl X "dict" := by rfl) (hst : starEach [e] X.env = (false, eval e X.env) :: starEach [] X.env := by rfl) (hpl : (backTo pos (starEach [] X.env)).any (·.1) = false := by rfl) :
    PE X (.Call (.Name "dict" p) [e] [] pos) (tN X.K ex W (fDict f)) :=
  PE.imp (pe_callTy call_dictD hg hm (by decide +kernel) (pa_cons he pa_nil hst) (by decide) (by decide) hst hpl) fun σ H Q ⟨_, _, _, r, q⟩ => inE r q fun d s1 G1 H1 v e1 r1 hv q1 => by
    cases d with
    | dict es =>
      cases hv with
      | @dct a kvs es hH hkv =>
        obtain ⟨m, m1, m2, _⟩ := hkv.pr
        dsimp only at q1
        rw [m1] at q1
        refine ⟨a, kvs, rfl, .inl (r1.b.sub _ _ hH), fun p' hp => ?_⟩
        obtain ⟨r2, g2, h02, w2, n2⟩ := r1.newOb (ho := .dK kvs) hp
        exact q1 G1 _ (Same.refl _) r2 _ ⟨⟨p', _, rfl, g2, h02, w2, upd_same, kvs, rfl, m2⟩, rfl, n2⟩
    | _ => exact q1.elim
/-! ### displays -/
abbrev FPr := FE × FE
def fPairs : List FPr → S → R (List (Key × D))
  | [], s => .ok [] s
  | (f, g) :: r, s => (f s).bind fun k s => (g s).bind fun d s => (R.of (kD k) s).bind fun k s => (fPairs r s).bind fun l s => .ok ((k, d) :: l) s
def fDisp (l : List FPr) : S → R Ent := fun s => (fPairs l s).bind fun m s => if m.length ≤ 15 then .ok (.dic (mergeKD [] m)) s else .bad
/-- the pairs' readings -/
inductive PrsOk (X : Cx) (ex : ExT) (W : WX) : List (Option Expr) → List Expr → List FPr → List (TE × TE) → Prop
  | nil : PrsOk X ex W [] [] [] []
  | cons {k v : Expr} {ks : List (Option Expr)} {vs : List Expr} {f g : FE} {l : List FPr} {trs : List (TE × TE)} : PE X k (tE X.K ex W f) → PE X v (tE X.K ex W g) → PrsOk X ex W ks vs l trs → PrsOk X ex W (some k :: ks) (v :: vs) ((f, g) :: l) ((tE X.K ex W f, tE X.K ex W g) :: trs)
theorem PrsOk.pps {ks : List (Option Expr)} {vs : List Expr} {l : List FPr} {trs : List (TE × TE)} {pos : Pos} (h : PrsOk X ex W ks vs l trs) : PPs X pos ks vs trs := by
  induction h with
  | nil => exact pps_nil
  | cons h1 h2 _ ih => exact pps_cons h1 h2 ih
theorem PrsOk.read {ks : List (Option Expr)} {vs : List Expr} {l : List FPr} {trs : List (TE × TE)} (h : PrsOk X ex W ks vs l trs) : ∀ {c : Act} {G H : Hp} {σ : St} {s : S} {Q : List (V × V) → Hp → Prop}, Rel X.K c G H σ s →
    Post X.K ex W c G σ (fun m G' H' s' => ∀ kvs, PrAll X.K G' kvs m → Q (kvs.map fun kv => (kV kv.1, kv.2)) H') (fPairs l s) → tPairs trs σ H Q := by
  induction h with
  | nil => exact fun r q => q.val' r [] .nil
  | @cons k v ks vs f g l trs h1 h2 h3 ih =>
    intro c G H σ s Q r q
    have q : Post X.K ex W c G σ _ ((f s).bind fun k s => (g s).bind fun d s => (R.of (kD k) s).bind fun k s => (fPairs l s).bind fun l s => .ok ((k, d) :: l) s) := q
    refine inE r q fun kd s1 G1 H1 u e1 r1 hu q1 => inE r1 q1 fun d s2 G2 H2 y e2 r2 hy q2 => ?_
    cases kz : kD kd with
    | none => rw [kz] at q2; exact q2.elim
    | some kk =>
      rw [kz] at q2
      have ek := kV_of hu kz
      subst ek
      refine ih r2 (Post.seq q2 fun m s3 G3 H3 e3 r3 q3 kvs hk => ?_)
      exact q3.val' r3 ((kk, y) :: kvs) (.cons (hy.up e3) hk)
theorem nDisp {ks : List (Option Expr)} {vs : List Expr} {l : List FPr} {trs : List (TE × TE)} {pos : Pos} (h : PrsOk X ex W ks vs l trs) (hall : ks.all (·.isSome) = true := by rfl) (hl : ks.length = vs.length := by rfl) (h0 : ks ≠ [] := by simp) (h15 : ks.length ≤ 15 := by simp) :
    PE X (.Dict ks vs pos) (tN X.K ex W (fDisp l)) := PE.imp (pe_disp h.pps hall hl h0 h15) fun σ H Q ⟨c, G, s, r, q⟩ => by
  intro p hp
  have q : Post X.K ex W c G σ (fun e G' H' s' => ∀ v, FreshE X.K c G' H' σ s' v e → Q v H') ((fPairs l s).bind fun m s => if m.length ≤ 15 then .ok (.dic (mergeKD [] m)) s else .bad) := q
  obtain ⟨r1, g1, h01, w1, n1⟩ := r.newOb (ho := .dK []) hp
  have b : Beside c G (upd H p (.dK [])) σ s p (.dK []) := ⟨upd_same, g1, h01, w1, n1, rfl⟩
  have g0 : c.G0 p = none := r1.b.g0.free g1
  refine h.read (r1.prot b) (Post.seqP rfl h01 g0 w1 q fun m s2 G2 H2 e2 r2 b2 q2 kvs hk => ?_)
  by_cases hm : m.length ≤ 15
  · rw [if_pos hm] at q2
    obtain ⟨r3, b3⟩ := r2.setBeside b2 (.dK (mergeK [] kvs))
    exact ⟨b2.at_, kvs, rfl, by rw [hk.len]; exact hm, q2 G2 _ (Same.refl _) r3 _ ⟨⟨p, _, rfl, b3.g, b3.h0, b3.wa, b3.at_, _, rfl, PrAll.merge hk .nil⟩, rfl, b3.ne⟩⟩
  · rw [if_neg hm] at q2
    exact q2.elim
/-- {} -/
def fDic0 : S → R Ent := fun s => .ok (.dic []) s
theorem nDic0 {pos : Pos} : PE X (.Dict [] [] pos) (tN X.K ex W fDic0) := PE.imp pe_dnewK fun σ H Q ⟨c, G, s, r, q⟩ p hp => by
  obtain ⟨r1, g1, h01, w1, n1⟩ := r.newOb (ho := .dK []) hp
  exact q G _ (Same.refl _) r1 _ ⟨⟨p, _, rfl, g1, h01, w1, upd_same, [], rfl, .nil⟩, rfl, n1⟩
end
/-! ### d.update(e), e a new dict -/
section
variable {X : Cx} {pins : List (Addr × Obj)} {σ : St} {H : Hp} {s : Shared} {a b : Addr}
theorem upd_call {kvs more : List (Key × V)} {A : Around} {E : Value → Shared → Prop} {Q : Value → Shared → Prop} (I : Inv X pins σ H s) (ha : H a = some (.dK kvs)) (hb : H b = some (.dK more)) (hab : a ≠ b) (hz : kvs.length + more.length ≤ sizeLine)
    (fin : ∀ s', Inv X pins σ (upd H a (.dK (mergeK kvs more))) s' → Q .none s') : wpAny (model X.prog X.w) A (call (.builtin "dict.update") [.ref a, .ref b]) Q E s := by
  obtain ⟨z1, n1, ws, rel1, d1⟩ := dk_of I.hok ha
  obtain ⟨z2, n2, us, rel2, d2⟩ := dk_of I.hok hb
  have len2 : (mergeK kvs more).length ≤ kvs.length + more.length := by
    have go : ∀ (m l : List (Key × V)), (mergeK l m).length ≤ l.length + m.length := by
      intro m
      induction m with
      | nil => intro l; exact Nat.le_refl _
      | cons q m ih =>
        intro l
        have h1 := ih (putK l q.1 q.2)
        have h2 := length_putK l q.1 q.2
        show (mergeK (putK l q.1 q.2) m).length ≤ _
        rw [List.length_cons]
        omega
    exact go more kvs
  refine call_meetsIn PySem.F.slot_dict_update d1.typeIs PySem.F.entry_dict_update (PySem.F.args_dict_update_2 _ _) (meets_dict_update (mixKind X.prog X.w) a b hab n2) ⟨ws, us, d1, d2, by rw [← rel1.length, ← rel2.length]; exact hz, fun h' dd _ sb => fin _ ?_⟩
  have at_ : ∃ q, h'.get? a = some q := let ⟨q, _, _, hq, _⟩ := dd; ⟨q, hq⟩
  exact d_write (t' := s.toks) I (by rw [ha]; exact True.intro) sb at_ (dk_new (by omega) n1 (rel2.merge rel1) dd)
end
def tUpd (td te : TE) : TE := fun σ H Q => td σ H fun x H1 => ∃ a, x = .ref a ∧ IsD H1 a ∧ te σ H1 fun y H2 => ∃ b kvs more, y = .ref b ∧ a ≠ b ∧ H2 a = some (.dK kvs) ∧ H2 b = some (.dK more) ∧ kvs.length + more.length ≤ sizeLine ∧ Q .non (upd H2 a (.dK (mergeK kvs more)))
theorem pe_upd {X : Cx} {o e : Expr} {apos cpos : Pos} {td te : TE} (ho : PE X o td) (he : PE X e te) (m : M1 X o "update" apos e cpos) : PE X (.Call (.Attribute o "update" apos) [e] [] cpos) (tUpd td te) := by
  refine ⟨fun pins s σ H Q I h => ?_⟩
  refine wpAny_Call_method m.base m.few m.line PySem.F.plainAttrs_dict PySem.F.slot_dict_update PySem.F.type_dict_update (thn (ho.run pins s σ H _ I h) fun uv s1 ⟨x, H1, I1, rx, a, exa, isd, q1⟩ => ?_)
  subst exa
  obtain rfl : uv = Value.ref a := rx
  obtain ⟨t1, t2, _⟩ := isD_at I1 isd
  refine ⟨t1, t2, ?_⟩
  rw [m.trees]
  refine Calls.callWith_builtin rfl (Calls.evalArgs_plain (Calls.spliced_cons (thn (he.run pins s1 σ H1 _ I1 q1) fun bv s2 ⟨y, H2, I2, ry, b, kvs, more, ey, hab, h1, h2, hz, q2⟩ => Calls.spliced_nil ?_)))
  subst ey
  obtain rfl : bv = Value.ref b := ry
  exact upd_call I2 h1 h2 hab hz fun s3 I3 => ⟨.non, _, I3, rfl, q2⟩
/-- name.update(e) -/
def sUpd (i : Nat) (f : S → R Ent) : FO := fun s => if isDic s i = true then (f s).stm fun e s => match e, s.ρ[i]? with
    | .dic more, some (some (.dic es)) => if es.length + more.length ≤ sizeLine then .nx (s.put i (.dic (mergeKD es more))) else .bad
    | _, _ => .bad
  else .bad
theorem kUpd (i : Nat) {X : Cx} {ex : ExT} {W : WX} {x : Str} {e : Expr} {f : S → R Ent} {p apos pos pos2 : Pos} (he : PE X e (tN X.K ex W f)) (hN : X.N[i]? = some x := by rfl) (hv : Vis X.env.scope x := by first | exact Or.inl rfl | exact Or.inr (Or.inl rfl) | exact Or.inr (Or.inr rfl))
    (hd : (x == ("__debug__" : Str)) = false := by decide) (hcd : (x == ("__classdict__" : Str)) = false := by decide) (m : M1 X (.Name x p) "update" apos e pos := by exact ⟨rfl, rfl, rfl, rfl⟩)
    (hsw : swapsWith (.Call (.Attribute (.Name x p) "update" apos) [e] [] pos) none pos2.line X.env = pure false := by rfl) :
    PS X (.Expr (.Call (.Attribute (.Name x p) "update" apos) [e] [] pos) pos2) (tS X.K ex W (sUpd i f)) :=
  PS.imp (ps_expr (pe_upd (pe_var hN hv hd hcd) he m) hsw) fun En σ H ⟨c, G, s, r, h⟩ => by
    have h : PostO X.K ex W c G En (if isDic s i = true then (f s).stm fun e s => match e, s.ρ[i]? with
        | .dic more, some (some (.dic es)) => if es.length + more.length ≤ sizeLine then .nx (s.put i (.dic (mergeKD es more))) else .bad
        | _, _ => .bad
      else .bad) := h
    by_cases hdc : isDic s i = true
    · rw [if_pos hdc] at h
      obtain ⟨es0, hes0⟩ : ∃ es, s.ρ[i]? = some (some (.dic es)) := by
        unfold isDic at hdc
        split at hdc
        · rename_i es he'
          exact ⟨es, he'⟩
        · cases hdc
      obtain ⟨a, kvs0, q1, q2, q3⟩ := r.dicAt hes0
      refine ⟨_, q1, a, rfl, .inl ⟨kvs0, .inl q2⟩, soN r h fun en s1 G1 H1 v e1 r1 hv h1 => ?_⟩
      split at h1
      · rename_i more es hes
        obtain ⟨a', kvs, p1, p2, p3⟩ := r1.dicAt hes
        rw [q1] at p1
        cases p1
        obtain ⟨⟨b, ho, rfl, hG, h0, hw, hH, mk, rfl, hmk⟩, _, hne⟩ := hv
        have hab : a ≠ b := fun z => hne i ⟨_, hes, rfl⟩ (by rw [q1, z])
        by_cases hz : es.length + more.length ≤ sizeLine
        · rw [if_pos hz] at h1
          refine ⟨b, kvs, mk, rfl, hab, p2, hH, by rw [p3.len, hmk.len]; exact hz, ?_⟩
          exact h1 σ G1 _ (Same.refl _) (r1.setDic hes q1 (PrAll.merge hmk p3))
        · rw [if_neg hz] at h1
          exact h1.elim
      · exact h1.elim
    · rw [if_neg hdc] at h
      exact h.elim
end PD
/-! PD19: dict comprehensions; try .. except X as n: if n.f != y: return c. -/
namespace PD
open PySem PySem.Spec L2
open PyProof.Rows hiding St
theorem R.bind_assoc {α β γ : Type} (r : R α) (f : α → S → R β) (g : β → S → R γ) : (r.bind f).bind g = r.bind fun a s => (f a s).bind g := by cases r <;> rfl
def dcmpD (vs : List Nat) (tg : FG) (ft : FT) (fk fv : FE) : List D → List (Key × D) → S → R (List (Key × D))
  | [], es, s => .ok es s
  | d :: ds, es, s => match tg d s with
    | none => .bad
    | some s1 => (ft s1).nox.bind fun b s2 => if b = true then (fk s2).nox.bind fun k s3 => (fv s3).nox.bind fun y s4 => (R.of (kD k) s4).bind fun k s4 => if es.length < sizeLine then dcmpD vs tg ft fk fv ds (putKD es k y) (kill vs s4) else .bad
      else dcmpD vs tg ft fk fv ds es (kill vs s2)
def fDComp (vs : List Nat) (fi : FA) (tg : FG) (ft : FT) (fk fv : FE) : S → R Ent := fun s => (fi s).bind fun ds s => (dcmpD vs tg ft fk fv ds [] (kill vs s)).bind fun es s => .ok (.dic es) s
theorem dc_it {J : It} {n : Nat} {Gd : Hp → Prop} {Y : Nat → Hp → V → Hp → Prop} (w : Walk J n Gd Y) {g : TG} {tt : TT} {tk tv : TE} {vs : List Nat} {σ : St} {H1 : Hp} {Dd : Addr} {Qd : Hp → Prop} (Pv : Nat → Hp → Prop) (h0 : Pv 0 (upd H1 Dd (.dK []))) (hG : ∀ i H, i ≤ n → Pv i H → Gd H)
    (hs : ∀ i x H H', i < n → Pv i H → Y i H x H' → g x (wipe σ vs) H' fun σ2 H2 => wipe σ2 vs = wipe σ vs ∧ tt σ2 H2 fun b H3 =>
      if b = true then tk σ2 H3 fun y H4 => tv σ2 H4 fun z H5 => ∃ kvs k, y = kV k ∧ H5 Dd = some (.dK kvs) ∧ kvs.length < sizeLine ∧ Pv (i + 1) (upd H5 Dd (.dK (putK kvs k z))) else Pv (i + 1) H3) (hd : ∀ H, Pv n H → Qd H) :
    ∃ W' : Nat → Nat → Hp → Prop, (∃ m, W' 0 m (upd H1 Dd (.dK []))) ∧ ∀ i m H, W' i m H →
      (J.stop i H ∧ Qd H) ∨ (J.go i H ∧ ∃ Nx : Hp → Prop, (∀ H', Nx H' → ∃ m', m' < m ∧ W' (i + 1) m' H') ∧ ∀ x H', J.yld i H x H' → g x (wipe σ vs) H' fun σ2 H2 => wipe σ2 vs = wipe σ vs ∧ tt σ2 H2 fun b H3 =>
        if b = true then tk σ2 H3 fun y H4 => tv σ2 H4 fun z H5 => ∃ kvs k, y = kV k ∧ H5 Dd = some (.dK kvs) ∧ kvs.length < sizeLine ∧ Nx (upd H5 Dd (.dK (putK kvs k z))) else Nx H3) := by
  refine ⟨fun i m H => m = n - i ∧ i ≤ n ∧ Pv i H, ⟨n, Nat.sub_zero n |>.symm, Nat.zero_le n, h0⟩, ?_⟩
  rintro j m H ⟨rfl, hj, p⟩
  have q := hG j H hj p
  rcases Nat.lt_or_ge j n with hlt | hge
  · exact .inr ⟨w.goes j H hlt q, Pv (j + 1), fun H' p' => ⟨n - (j + 1), Nat.sub_succ_lt_self n j hlt, rfl, hlt, p'⟩, fun x H' y => hs j x H H' hlt p (w.yields j H x H' hlt q y)⟩
  · obtain rfl : j = n := Nat.le_antisymm hj hge
    exact .inl ⟨w.stops H q, hd H p⟩
section
variable {K : PySem.W.Frag} {ex : ExT} {W : WX}
theorem dcmpD_drop {vs : List Nat} {tg : FG} {ft : FT} {fk fv : FE} {ds : List D} {i : Nat} {es : List (Key × D)} {d : D} (h : ds[i]? = some d) (s : S) : dcmpD vs tg ft fk fv (ds.drop i) es s = dcmpD vs tg ft fk fv (d :: ds.drop (i + 1)) es s := by
  obtain ⟨hi, e⟩ := List.getElem?_eq_some_iff.mp h
  rw [List.drop_eq_getElem_cons hi, e]
theorem dc_read {c : Act} {G H1 : Hp} {σ : St} {s : S} {J : It} {ds : List D} {l vs : List Nat} {tg : FG} {ft : FT} {fk fv : FE} {Dd : Addr} {Q : V → Hp → Prop} (hl : ∀ i ∈ l, i ∈ vs) (wk : WkD K G J ds) (r : Rel K c G H1 σ s) (hD : H1 Dd = none)
    (h : Post K ex W c G σ (fun e G' H' s' => ∀ v, FreshE K c G' H' σ s' v e → Q v H') ((dcmpD vs tg ft fk fv ds [] (kill vs s)).bind fun es s => .ok (.dic es) s)) :
    ∃ W' : Nat → Nat → Hp → Prop, (∃ m, W' 0 m (upd H1 Dd (.dK []))) ∧ ∀ i m H, W' i m H →
      (J.stop i H ∧ Q (.ref Dd) H) ∨ (J.go i H ∧ ∃ Nx : Hp → Prop, (∀ H', Nx H' → ∃ m', m' < m ∧ W' (i + 1) m' H') ∧ ∀ x H', J.yld i H x H' → tG K l tg x (wipe σ vs) H' fun σ2 H2 => wipe σ2 vs = wipe σ vs ∧ tT K ex W0 ft σ2 H2 fun b H3 =>
        if b = true then tE K ex W0 fk σ2 H3 fun y H4 => tE K ex W0 fv σ2 H4 fun z H5 => ∃ kvs k, y = kV k ∧ H5 Dd = some (.dK kvs) ∧ kvs.length < sizeLine ∧ Nx (upd H5 Dd (.dK (putK kvs k z))) else Nx H3) := by
  have g0 : c.G0 Dd = none := (r.b.free hD).2.2.2
  have h0 : c.H0 Dd = none := (r.b.free hD).2.2.1
  have hwa : Dd ≠ c.wa := (r.b.free hD).2.1
  have kk : ∀ (s : S) j e, (kill vs s).ρ[j]? = some (some e) → j ∉ vs := fun s j e q => (kill_get vs q).2
  refine dc_it wk (Qd := fun H => Q (.ref Dd) H) (fun i H => ∃ G' s' acc es, Same G G' ∧ (∀ j e, s'.ρ[j]? = some (some e) → j ∉ vs) ∧ Rel K c G' H σ s' ∧ Beside c G' H σ s' Dd (.dK acc) ∧ PrAll K G' acc es ∧
    Post K ex W c G' σ (fun e G' H' s' => ∀ v, FreshE K c G' H' σ s' v e → Q v H') ((dcmpD vs tg ft fk fv (ds.drop i) es s').bind fun es s => .ok (.dic es) s)) ?_ (fun i H hi ⟨G', s', acc, es, e, _, r', _⟩ => ⟨G', e, r'.b.sub⟩) (fun i x H H' hi pv y => ?_) (fun H pv => ?_)
  · obtain ⟨r1, q1, q2, q3, q4⟩ := (r.kill vs).newOb (ho := .dK []) hD
    exact ⟨G, kill vs s, [], [], Same.refl _, kk s, r1, ⟨upd_same, q1, q2, q3, q4, rfl⟩, .nil, h⟩
  · obtain ⟨G', s', acc, es, e, kl, r', b', hacc, h'⟩ := pv
    have rp := (r'.prot b').toWipe kl (wipe_length σ vs) fun j hj => wipe_out hj
    obtain ⟨G2, d, e2, r2, hd, hx⟩ := y _ _ _ _ e rp
    rw [dcmpD_drop hd] at h'
    unfold dcmpD at h'
    cases z : tg d s' with
    | none =>
      simp only [z] at h'
      exact h'.elim
    | some s1 =>
      simp only [z, R.bind_assoc] at h'
      refine ⟨c.prot Dd (.dK acc), G2, s', d, s1, r2, hx, z, fun σ3 k3 r3 => ?_⟩
      have w3 : ∀ (j : Nat), j ∉ vs → σ3[j]? = (wipe σ vs)[j]? := fun j hj => k3.2 j fun q => hj (hl j q)
      refine ⟨(wipe_eq k3.1 w3).trans (wipe_eq (wipe_length σ vs) fun j hj => wipe_out hj), ?_⟩
      have σ3o : ∀ (j : Nat), j ∉ vs → σ[j]? = σ3[j]? := fun j hj => ((w3 j hj).trans (wipe_out hj)).symm
      have σ3l : σ.length = σ3.length := by rw [k3.1, wipe_length]
      refine ⟨c.prot Dd (.dK acc), G2, s1, r3, Post.seqN (Post.up h' e2) fun b s2 G3 H3 e3 r4 h4 => ?_⟩
      cases b with
      | false =>
        simp only [Bool.false_eq_true, if_false] at h4 ⊢
        obtain ⟨r5, b5⟩ := Rel.unprot rfl h0 g0 hwa (((r4.kill vs).toWipe (kk s2) σ3l σ3o))
        exact ⟨G3, kill vs s2, acc, es, (e.trans e2).trans e3, kk s2, r5, b5, (hacc.up e2).up e3, h4⟩
      | true =>
        simp only [if_true, R.bind_assoc] at h4 ⊢
        refine ⟨c.prot Dd (.dK acc), G3, s2, r4, Post.seqN h4 fun kd s3 G4 H4 e4 r5 h5 u hu => ?_⟩
        refine ⟨c.prot Dd (.dK acc), G4, s3, r5, Post.seqN h5 fun yd s4 G5 H5 e5 r6 h6 v hv => ?_⟩
        cases kz : kD kd with
        | none => rw [kz] at h6; exact h6.elim
        | some k =>
          rw [kz] at h6
          have ek := kV_of hu kz
          by_cases hn : es.length < sizeLine
          · have h6 : Post K ex W c G5 σ (fun e G' H' s' => ∀ v, FreshE K c G' H' σ s' v e → Q v H') ((if es.length < sizeLine then dcmpD vs tg ft fk fv (ds.drop (i + 1)) (putKD es k yd) (kill vs s4) else .bad).bind fun es s => .ok (Ent.dic es) s) := h6
            rw [if_pos hn] at h6
            obtain ⟨r7, b7⟩ := Rel.unprot rfl h0 g0 hwa (((r6.kill vs).toWipe (kk s4) σ3l σ3o))
            obtain ⟨r8, b8⟩ := r7.setBeside b7 (.dK (putK acc k v))
            exact ⟨acc, k, ek, b7.at_, by rw [hacc.len]; exact hn, G5, kill vs s4, putK acc k v, putKD es k yd, (((e.trans e2).trans e3).trans e4).trans e5, kk s4, r8, b8, ((((hacc.up e2).up e3).up e4).up e5).putK hv, h6⟩
          · have h6 : Post K ex W c G5 σ (fun e G' H' s' => ∀ v, FreshE K c G' H' σ s' v e → Q v H') ((if es.length < sizeLine then dcmpD vs tg ft fk fv (ds.drop (i + 1)) (putKD es k yd) (kill vs s4) else .bad).bind fun es s => .ok (Ent.dic es) s) := h6
            rw [if_neg hn] at h6
            exact h6.elim
  · obtain ⟨G', s', acc, es, e, kl, r', b', hacc, h'⟩ := pv
    rw [List.drop_length] at h'
    exact h'.val' r' _ ⟨⟨Dd, _, rfl, b'.g, b'.h0, b'.wa, b'.at_, acc, rfl, hacc⟩, rfl, b'.ne⟩
end
section
variable {X : Cx} {ex : ExT} {W : WX}
theorem nDComp {kx vx tg iter : Expr} {ifs : List Expr} {scope : Scope} {own : List (Str × Nat)} {pos : Pos} {l : List Nat} {fi : FA} {fg : FG} {ft : FT} {fk fv : FE} (hc : X.calm = true) (hN : X.N.Nodup) (hi : PI X tg iter (tI X.K ex W fi)) (ok : BlkOk X.N X.env.scope scope own)
    (hg : ∀ (s : Shared) (H : Hp) (C : Addr) (cl : List (Str × Addr)) (fp : List Addr), PG (X.blk s H scope (compEnvC scope cl C X.env) fp) tg (tG X.K l fg)) (ht : ∀ (s : Shared) (H : Hp) (C : Addr) (cl : List (Str × Addr)) (fp : List Addr), PTs (X.blk s H scope (compEnvC scope cl C X.env) fp) ifs (tT X.K ex W0 ft))
    (hk : ∀ (s : Shared) (H : Hp) (C : Addr) (cl : List (Str × Addr)) (fp : List Addr), PE (X.blk s H scope (compEnvC scope cl C X.env) fp) kx (tE X.K ex W0 fk))
    (he : ∀ (s : Shared) (H : Hp) (C : Addr) (cl : List (Str × Addr)) (fp : List Addr), PE (X.blk s H scope (compEnvC scope cl C X.env) fp) vx (tE X.K ex W0 fv)) (hl : ∀ i ∈ l, i ∈ own.map (·.2) := by decide) (hs : ∀ x, foldedSetIterable iter X.env x = pure x := by intro _; rfl) :
    PE X (.DictComp kx vx [⟨tg, iter, ifs, 0⟩] scope pos) (tN X.K ex W (fDComp (own.map (·.2)) fi fg ft fk fv)) :=
  PE.imp (pe_dc hc hN hi ok hg ht hk he hs) fun σ H Q ⟨c, G, s, r, h⟩ =>
    ⟨c, G, s, r, Post.seq h fun ds s1 G1 H1 e1 r1 h1 J wk Dd hD => dc_read hl wk r1 hD h1⟩
end
/-! ### try .. except X as n: if e != y: return b -/
def sTryC (k i y : Nat) (fb : FO) (g : List D → D) (b : Bool) : FO := fun s => match fb s with
  | .exc k' as s' => if k' = k ∧ i < s'.ρ.length ∧ i ≠ y then (match s'.ρ[y]? with
      | some (some (.val d)) => (match dNe (g as) d with
        | some (.bool true) => .rt (.bool b) (s'.drop i)
        | some (.bool false) => .nx (s'.drop i)
        | _ => .bad)
      | _ => .bad) else .bad
  | o => o
section
variable {X : Cx} {ex : ExT} {Wout : WX} {x n yn : Str} {C fI : Addr} {fs : List Str} {k i y kr : Nat} {body : List Stmt} {e : Expr} {fb : FO} {g : List D → D} {te : Addr → Value → Option Addr → TE} {np rp yp cp ip bp pos pos' : Pos} {b : Bool} {bj}
theorem drop_drop (s : S) (i : Nat) : (s.drop i).drop i = s.drop i := by
  unfold S.drop
  simp
theorem kTryC (hr : Room kr X.A) (hs : X.stack = X.env :: X.outer) (hf : X.env.frame = some X.env.locals) (hN : X.N.Nodup) (hi : X.N[i]? = some n) (hln : X.env.kindOf n = some .local) (T : XCls X.K X.mg x C fI fs) (hex : ex k = some (C, fs)) (tk : Takes X Wout)
    (hb : ∀ (W : WX) (pn : List (Addr × Obj)) (xe : Value → Shared → Prop), Takes (X.tr pn xe) W → PSs (X.tr pn xe) body (tS X.K ex W fb))
    (hsu : ∀ (a : Addr) (oe : Obj) (cls : Value) (d : Option Addr) (pn : List (Addr × Obj)), Zc cls d oe → (∃ vs, oe.data = .fields vs) → PE (X.suite a ((a, oe) :: pn)) e (te a cls d))
    (hv : HV X.K ex k i te g) (hy : X.N[y]? = some yn := by rfl) (hvy : Vis X.env.scope yn := by first | exact Or.inl rfl | exact Or.inr (Or.inl rfl) | exact Or.inr (Or.inr rfl)) (hg : Gl X x := by rfl) (hdb : (x == ("__debug__" : Str)) = false := by decide)
    (hd : (yn == ("__debug__" : Str)) = false := by decide) (hcd : (yn == ("__classdict__" : Str)) = false := by decide) :
    PS X (.Try body [.ExceptHandler (some (.Name x np)) (some n) [.If (.Compare e [.NotEq] [.Name yn yp] cp) [.Return (some (.Constant (.bool b) bj bp)) rp] [] ip] pos'] [] [] pos) (tS X.K ex Wout (sTryC k i y fb g b)) := by
  refine PS.imp (ps_try_as (tb := fun W => tS X.K ex W fb) (ts := fun a cls d => tIfS (tTest (tOp (rNeD X.K) (te a cls d) (tVar y))) (tRet (tC (.bl b))) tNext) (Wout := Wout) hs hf hN hi hln ⟨hg, hdb, .inl T.gC⟩ tk (fun W pn xe tk' _ => hb W pn xe tk') (fun a oe cls d pn hz hf' =>
    pss_one (ps_if (pt_cmpR (op_neD hr.units) (hsu a oe cls d pn hz hf') (pe_var hy hvy hd hcd) (nomark _)) (pss_one (ps_ret pe_bl)) pss_nil))) fun En σ H ⟨c, G, s, r, h⟩ => ?_
  refine ⟨c, G, s, r, ?_⟩
  unfold sTryC at h
  cases hfb : fb s with
  | nx s' => rw [hfb] at h; exact h
  | rt d s' => rw [hfb] at h; exact h
  | bk s' => rw [hfb] at h; exact h
  | ct s' => rw [hfb] at h; exact h
  | bad => rw [hfb] at h; exact h.elim
  | exc k' as s' =>
    rw [hfb] at h
    dsimp only at h
    split at h
    case isFalse => exact h.elim
    case isTrue hk =>
      obtain ⟨rfl, hl, hiy⟩ := hk
      intro cls dx σ' G' H' eG r' E
      have hcls : cls = .ref C := by
        obtain ⟨C', names, d, fl, vs, e1, e2, e3, e4, e5, e6⟩ := E
        rw [hex] at e1
        cases e1
        exact e2
      subst hcls
      refine ⟨true, T.te, fun _ a ha => ?_, fun q => nomatch q⟩
      have r2 := r'.over i (some (.ref a))
      have hl' : i < σ'.length := by rw [← r'.len]; exact hl
      refine hv r2 (by rw [List.length_set]; exact hl') (List.getElem?_set_self hl') E fun v G2 H2 e2 r3 _ hd => ?_
      split at h
      · rename_i d0 hd0
        have hd1 : (s'.drop i).ρ[y]? = some (some (.val d0)) := by
          show (s'.ρ.set i none)[y]? = _
          rw [List.getElem?_set_ne hiy]
          exact hd0
        obtain ⟨u, hu, hud⟩ := r3.slot y _ hd1
        have hud : Dp X.K G2 u d0 := hud
        refine ⟨u, hu, ?_⟩
        have fin : ∀ kb, dNe (g as) d0 = some (.bool kb) → (∃ z, V.bl kb = .bl z ∧ (if z = true then En.rt (.bl b) H2 else En.nx (((σ'.set i (some (.ref a))).set i none)) H2)) → rNeD X.K v u H2 fun x' H' => ∃ z, x' = .bl z ∧ (if z = true then En.rt (.bl b) H' else En.nx ((σ'.set i (some (.ref a))).set i none) H') := fun kb hkb hq => by
          unfold dNe at hkb
          split at hkb
          · rename_i hsh
            have hkb := Option.some.inj hkb
            refine ⟨g as, d0, (hd.up r3.b.sub).kit hsh.1, (hud.up r3.b.sub).kit hsh.2, hsh.1, hsh.2, ?_⟩
            injection hkb with hkb
            rw [hkb]
            exact hq
          · cases hkb
        split at h
        · rename_i hne
          exact fin true hne ⟨true, rfl, h _ _ G2 H2 (eG.trans e2) r3 (.bl b)⟩
        · rename_i hne
          refine fin false hne ⟨false, rfl, ?_⟩
          have r4 := r3.over i none
          rw [drop_drop] at r4
          exact h _ G2 H2 (eG.trans e2) r4
        · exact h.elim
      · exact h.elim
end
end PD
/-! PDset0: sorted(set(xs)) of a list of ints. -/
namespace PD
open PySem PySem.Spec L2
open PyProof.Rows hiding St
section
variable {P : Program} {w : World} {A : Around} {E : Value → Shared → Prop} {s : Shared}
abbrev emptySet (w : World) : Obj := { cls := .type "set", dict := none, data := .set #[] 0 (.fresh 0 0 (!w.params.followText "set-order")) }
set_option maxRecDepth 100000 in
set_option maxHeartbeats 3200000 in
/-- set(xs), xs a list of ints -/
theorem set_of_ints {l : Addr} {items : Array Value} (ns : List Int) {Q : Value → Shared → Prop} (h0 : A.handled = none)
    (iL : s.heap.IsList l items) (iN : IntsAre items.toList ns) (room : ns.length + 1 < scanBound)
    (fin : ∀ (h' : Heap) (tk c : Nat), SetR w h' s.heap.objs.size (fun j => decide (j ∈ ns)) c → c ≤ ns.length →
      (∀ b o, s.heap.get? b = some o → h'.get? b = some o) → Q (.ref s.heap.objs.size) { s with heap := h', toks := tk }) :
    wpAny (model P w) A (call (.type "set") [.ref l]) Q E s := by
  have sz : items.size = ns.length := by
    have q := IntsAre.length iN
    simpa using q
  obtain ⟨cc, tl, mro⟩ := F.called_set.mro
  have m1 := F.called_set.made
  have m2 := F.called_set.sub
  refine wpAny_call (codeAny_of_tree (show wpAny _ _ (callAny (.type "set") _) _ _ _ from ?_))
  refine wpAny_pure ⟨Code.quiet_builtin _ (by decide +kernel),
    codeAny_builtin F.entry_type_call ?_⟩
  rw [Around.under_plain (weight_type_call_type "set" [.ref l] []) rfl]
  have t1 := F.called_set.notType
  have t2 := F.called_set.canCreate
  have t3 := F.typeCall_set_1 (.ref l)
  repeat (any_goals
    (first | assumption | wp_step))
  refine codeAny_mono (code_set_led1 (.ref l) (E := E)
    (Q₁ := fun obj s₁ => obj = .ref s.heap.objs.size ∧ s₁ = { s with heap := s.heap.push (emptySet w) }) ⟨rfl, rfl⟩) fun r s₁ hr => ?_
  cases r with
  | error e => exact hr
  | ok fl =>
    cases fl with
    | ret obj =>
      obtain ⟨rfl, rfl⟩ := hr
      have gS : (s.heap.push (emptySet w)).get? s.heap.objs.size = some (emptySet w) := Heap.get?_push_size _ rfl
      have gT : Shared.TypeIs { s with heap := s.heap.push (emptySet w) } (.ref s.heap.objs.size) "set" := ⟨_, gS, rfl⟩
      have i1 := F.called_set.init.lookup
      have i2 := F.called_set.init.bind (.ref s.heap.objs.size)
      repeat (any_goals
        (first | assumption | wp_step))
      refine codeAny_mono (codeAny_call_builtin
        (R := wants (fun r s₂ => r = .none ∧ ∃ h' tk c, s₂ = { s with heap := h', toks := tk } ∧
          SetR w h' s.heap.objs.size (fun j => decide (j ∈ ns)) c ∧ c ≤ ns.length ∧ (∀ b o, s.heap.get? b = some o → h'.get? b = some o)) E)
        F.called_set.init.plain F.entry_set_init (check_set_init_1 gT ?_)) fun r₂ s₂ hr₂ => ?_
      · obtain ⟨⟨cls, dd, dat, slo⟩, gl, cl, nl, dl⟩ := iL
        simp only at cl dl
        subst cl
        subst dl
        have gl' : (s.heap.push (emptySet w)).get? l = some { cls := .type "list", dict := dd, data := .seq items nl, slots := slo } :=
          Heap.get?_push_of_some _ gl
        have u1 := F.sub_list_set
        have u2 := F.sub_list_frozenset
        have u3 : (Value.type "list" == Value.type "dict") = false := by decide
        have gL : (s.heap.push (emptySet w)).IsList l items := ⟨_, gl', rfl, nl, rfl⟩
        unfold Builtin.«set.__init__» noKeywords
        unfold Builtin.Frozenset.updateFrom
        generalize hPI : pyIter = PI
        wp_walk
        subst hPI
        refine wpAny_pyIter_list gL (wpAny_bind (wpAny_runValue ?_))
        have lt : l < s.heap.objs.size := Heap.lt_size gl
        have h3 : A.in1.in1.in1.handled = none := by simp [h0]
        have sp : (s.heap.push (emptySet w)).objs.size = s.heap.objs.size + 1 := Heap.size_push ..
        have nI : l ≠ (s.heap.push (emptySet w)).objs.size := by
          rw [sp]
          exact Nat.ne_of_lt (Nat.lt_succ_of_lt lt)
        have nS : s.heap.objs.size ∉ [(s.heap.push (emptySet w)).objs.size, l] := by
          rw [sp]
          simp only [List.mem_cons, List.not_mem_nil, or_false, not_or]
          exact ⟨Nat.ne_of_lt (Nat.lt_succ_self _), Nat.ne_of_gt lt⟩
        have vals : ∀ (i : Nat) (v : Value), items[i]? = some v → ∃ k t, ns[i]? = some k ∧ v = .int k t := fun i v hv => by
          have hi : i < ns.length := by
            rw [← sz]
            exact (Array.getElem?_eq_some_iff.mp hv).1
          obtain ⟨t, e⟩ := IntsAre.int_at iN i v (by rw [Array.getElem?_toList]; exact hv)
          refine ⟨ns[i], t, List.getElem?_eq_getElem hi, ?_⟩
          rw [e, List.getD_eq_getElem?_getD, List.getElem?_eq_getElem hi]
          rfl
        refine set_update_ints ((Walks.list h3 _ l nI items).toS) s.heap.objs.size nS ns sz room vals (items.size - 0) 0 _
          (by omega) (Nat.zero_le _) ⟨⟨_, Heap.get?_push_size _ rfl, rfl, rfl⟩, (gL.push _)⟩ ?start ?stop
        case start =>
          exact ⟨0, Nat.le_refl 0, setR_new_at (Heap.get?_push_of_some _ gS)⟩
        case stop =>
          intro s' c' mv hc' hS'
          obtain ⟨h', g2, d', tk', os'⟩ := s'
          obtain rfl : g2 = s.gens := mv.gens
          obtain rfl : d' = s.drawn := mv.drawn
          obtain rfl : os' = s.os := mv.os
          show wpAny _ _ _ _ _ _
          refine wpAny_pure (show wpAny _ _ (ret Value.none) _ _ _ from ?_)
          rw [sz] at hc'
          refine wpAny_pure ⟨rfl, h', tk', c', rfl, hS', hc', fun b o e => ?_⟩
          have b0 : b < s.heap.objs.size := Heap.lt_size e
          refine mv.heap b o ?_ (Heap.get?_push_of_some _ (Heap.get?_push_of_some _ e))
          rw [sp]
          simp only [List.mem_cons, List.not_mem_nil, or_false, not_or]
          exact ⟨Nat.ne_of_lt b0, Nat.ne_of_lt (Nat.lt_succ_of_lt b0)⟩
      · cases r₂ with
        | error e => exact hr₂
        | ok fl₂ =>
          cases fl₂ with
          | ret r =>
            obtain ⟨rfl, h', tk, c', rfl, hS', hc', hk'⟩ := hr₂
            repeat (any_goals
              (first | assumption | wp_step))
            exact fin _ _ _ hS' hc' hk'
          | _ => exact hr₂.elim
    | _ => exact hr.elim
end
end PD
/-! PDset: sorted(set(xs)) of a list of ints. -/
namespace PD
open PySem PySem.Spec L2
open PyProof.Rows hiding St
section
variable {X : Cx} {ex : ExT} {W : WX}
/-- the one ascending list of these members -/
def uniqI : List Int → List Int
  | [] => []
  | x :: xs => match uniqI xs with
    | [] => [x]
    | y :: ys => if x = y then y :: ys else x :: y :: ys
theorem uniqI_mem : ∀ (l : List Int) (k : Int), k ∈ uniqI l ↔ k ∈ l
  | [], k => by simp [uniqI]
  | x :: xs, k => by
    have ih := uniqI_mem xs k
    unfold uniqI
    cases e : uniqI xs with
    | nil =>
      rw [e] at ih
      simp only [List.mem_cons, List.not_mem_nil, or_false] at ih ⊢
      constructor
      · exact .inl
      · rintro (h | h)
        · exact h
        · exact (ih.mpr h).elim
    | cons y ys =>
      rw [e] at ih
      simp only
      split
      · rename_i h
        rw [ih, List.mem_cons]
        constructor
        · exact .inr
        · rintro (h' | h')
          · exact ih.mp (by rw [h', h]; simp)
          · exact h'
      · rw [List.mem_cons, ih, List.mem_cons]
theorem uniqI_sorted : ∀ {l : List Int}, l.Pairwise (· ≤ ·) → (uniqI l).Pairwise (· < ·)
  | [], _ => .nil
  | x :: xs, h => by
    have h' := List.pairwise_cons.mp h
    have ih := uniqI_sorted h'.2
    have hm := uniqI_mem xs
    unfold uniqI
    cases e : uniqI xs with
    | nil => simp
    | cons y ys =>
      rw [e] at ih hm
      simp only
      split
      · exact ih
      · rename_i hxy
        refine List.pairwise_cons.mpr ⟨fun z hz => ?_, ih⟩
        have hy : x ≤ y := h'.1 y ((hm y).mp (by simp))
        rcases List.mem_cons.mp hz with rfl | hz'
        · omega
        · have := (List.pairwise_cons.mp ih).1 z hz'
          omega
theorem asc_unique : ∀ {xs ys : List Int}, (∀ k, k ∈ xs ↔ k ∈ ys) → xs.Pairwise (· < ·) → ys.Pairwise (· < ·) → xs = ys
  | [], [], _, _, _ => rfl
  | [], y :: ys, h, _, _ => absurd ((h y).mpr (by simp)) (by simp)
  | x :: xs, [], h, _, _ => absurd ((h x).mp (by simp)) (by simp)
  | x :: xs, y :: ys, h, h1, h2 => by
    have a := List.pairwise_cons.mp h1
    have b := List.pairwise_cons.mp h2
    have e : x = y := by
      rcases List.mem_cons.mp ((h x).mp (by simp)) with e | m1
      · exact e
      · rcases List.mem_cons.mp ((h y).mpr (by simp)) with e | m2
        · exact e.symm
        · have := a.1 y m2
          have := b.1 x m1
          omega
    subst e
    rw [asc_unique (fun k => ?_) a.2 b.2]
    have hk := h k
    simp only [List.mem_cons] at hk
    constructor
    · intro m
      have := a.1 k m
      rcases hk.mp (.inr m) with e | m'
      · omega
      · exact m'
    · intro m
      have := b.1 k m
      rcases hk.mpr (.inr m) with e | m'
      · omega
      · exact m'
/-- sorted(set(xs)) of ints -/
def sortSet (ns : List Int) : List Int := uniqI (sortI ns)
theorem sortSet_mem (ns : List Int) (k : Int) : k ∈ sortSet ns ↔ k ∈ ns := (uniqI_mem _ k).trans (sortI_perm ns).mem_iff
theorem sortSet_sorted (ns : List Int) : (sortSet ns).Pairwise (· < ·) := uniqI_sorted (sortI_sorted ns)
def fSortSet (f : FE) : FA := fun s => (f s).bind fun d s => match d with
  | .list ds => R.of ((intsD ds).bind fun ns => if ns.length < 64 then some ((sortSet ns).map PyData.int) else none) s
  | _ => .bad
theorem oSortSet {e : Expr} {f : FE} {p q pos pos2 : Pos} (hc : X.calm = true) (hm : X.mg "sorted" = none) (hm2 : X.mg "set" = none) (he : PE X e (tE X.K ex W f)) (hg : Gl X "sorted" := by rfl) (hg2 : Gl X "set" := by rfl)
    (na : starEach [e] X.env = (false, eval e X.env) :: starEach [] X.env := by rfl) (na2 : starEach [.Call (.Name "set" q) [e] [] pos2] X.env = (false, eval (.Call (.Name "set" q) [e] [] pos2) X.env) :: starEach [] X.env := by rfl)
    (pl : (backTo pos2 (starEach [] X.env)).any (·.1) = false := by rfl) (pl2 : (backTo pos (starEach [] X.env)).any (·.1) = false := by rfl) :
    PE X (.Call (.Name "sorted" p) [.Call (.Name "set" q) [e] [] pos2] [] pos) (tO X.K ex W (fSortSet f)) := by
  have hset : PE X (.Call (.Name "set" q) [e] [] pos2) (fun σ H Q => tE X.K ex W f σ H fun x H1 => ∃ (l : Addr) (ns : List Int), x = .ref l ∧ SqL X.K H1 l (ns.map V.int) ∧ ns.length < 64 ∧ ∀ p c, H1 p = none → c ≤ ns.length → Q (.ref p) (upd H1 p (SetO X.w p (fun j => decide (j ∈ ns)) c))) := by
    refine ⟨fun pins s σ H Q I h => ?_⟩
    refine Call_ (ld_blt I hg2 hm2 PyProof.Rows.boot_set ?_)
    refine PyProof.Rows.callWith_type1 (PyProof.Rows.args_cons (thn (he.run pins s σ H _ I h) fun v s1 ⟨x, H1, I1, r1, q1⟩ => PyProof.Rows.args_nil ?_) na) na pl
    obtain ⟨l, ns, rfl, hq, h1, q1⟩ := q1
    cases r1
    obtain ⟨its, r, pl, hz⟩ := I1.list hq
    refine set_of_ints ns (I1.ok.hd hc) pl.isList (by simpa using r.ints) (by unfold scanBound; omega) fun h' tk cc hS hcc hk => ?_
    have hn : H1 s1.heap.objs.size = none := I1.hok.fresh (Nat.le_refl _)
    exact ⟨.ref s1.heap.objs.size, _, I1.laid (t' := tk) hk (Nat.le_refl _) (setO_new hS), rfl, q1 _ cc hn hcc⟩
  refine PE.imp (pe_callB (cr_sortedSet hc) hg hm (by decide +kernel) (pa_cons hset pa_nil na2) (he := na2) (hpl := pl2)) fun σ H Q ⟨c, G, s, r, h⟩ => inE r h fun d s1 G1 H1 v e1 r1 hv q1 => ?_
  cases d with
  | list ds =>
    cases z : intsD ds with
    | none =>
      simp only [z] at q1
      exact q1.elim
    | some ns =>
      simp only [z, Option.bind_some] at q1
      by_cases hl : ns.length < 64
      · rw [if_pos hl] at q1
        rw [intsD_eq z] at hv
        cases hv with
        | lst h1 h2 =>
          rw [h2.of_ints] at h1
          refine ⟨_, ns, rfl, r1.b.sub.seq h1, hl, fun p cc hp hcc => ⟨p, _, cc, rfl, upd_same, by omega, fun ns' l hs hmem hlen hl2 => ?_⟩⟩
          have e : ns' = sortSet ns := asc_unique (fun k => by rw [hmem k, sortSet_mem, decide_eq_true_eq]) hs (sortSet_sorted ns)
          subst e
          have r2 := r1.allocOwn (o := SetO X.w p (fun j => decide (j ∈ ns)) cc) hp
          obtain ⟨r3, hf⟩ := r2.newOwn hl2 (DpAll.ints (sortSet ns))
          exact q1.val' r3 _ hf
      · rw [if_neg hl] at q1
        exact q1.elim
  | _ => exact q1.elim
end
end PD
/-! plain laws about the readings: no program in sight -/
namespace PD
open PySem PySem.Spec L2
open PyProof.Rows hiding St
section
variable {kl : List Nat} {tg : FG} {body : FO}
@[simp] theorem sSeq_s (f g : FO) (s : S) : sSeq f g s = (f s).seq g := rfl
@[simp] theorem sNil_s (s : S) : sNil s = .nx s := rfl
@[simp] theorem sRet_s (f : FE) (s : S) : sRet f s = (f s).stm fun d s => .rt d s := rfl
@[simp] theorem sIf_s (c : FT) (f g : FO) (s : S) : sIf c f g s = (c s).stm fun b s => if b = true then f s else g s := rfl
@[simp] theorem sAsg_gNm (f : FE) (i : Nat) (s : S) : sAsg f (gNm i) s = (f s).stm fun d s => .nx (s.put i (.val d)) := rfl
@[simp] theorem sDrp_s (f : FE) (s : S) : sDrp f s = (f s).stm fun _ s => .nx s := rfl
@[simp] theorem sFor_s (fi : FA) (s : S) : sFor kl fi tg body s = (fi s).stm fun ds s => forD kl tg body ds s := rfl
@[simp] theorem sSetO_s (i : Nat) (f : FA) (s : S) : sSetO i f s = (f s).stm fun ds s => .nx (s.put i (.own ds)) := rfl
@[simp] theorem sAug_s (i : Nat) (o : D → D → Option D) (f : FE) (s : S) : sAug i o f s = (rdSlot s i).stm fun d s => (f s).stm fun d' s => (R.of (o d d') s).stm fun z s => .nx (s.put i (.val z)) := rfl
@[simp] theorem fSlot_s (i : Nat) (s : S) : fSlot i s = rdSlot s i := rfl
@[simp] theorem fC_s (d : D) (s : S) : fC d s = .ok d s := rfl
@[simp] theorem fNil_s (s : S) : fNil s = .ok [] s := rfl
@[simp] theorem fCons_s (f : FE) (g : FA) (s : S) : fCons f g s = (f s).bind fun d s => (g s).bind fun ds s => .ok (d :: ds) s := rfl
@[simp] theorem fTup_s (f : FA) (s : S) : fTup f s = (f s).bind fun ds s => if ds.length ≤ sizeLine then .ok (.tuple ds) s else .bad := rfl
@[simp] theorem fLst_s (f : FA) (s : S) : fLst f s = (f s).bind fun ds s => if ds.length ≤ sizeLine then .ok (.list ds) s else .bad := rfl
@[simp] theorem fBin_s (o : D → D → Option D) (f g : FE) (s : S) : fBin o f g s = (f s).bind fun a s => (g s).bind fun b s => R.of (o a b) s := rfl
@[simp] theorem tVal_s (f : FE) (s : S) : tVal f s = (f s).bind toB := rfl
@[simp] theorem toB_bool (b : Bool) (s : S) : toB (.bool b) s = .ok b s := rfl
@[simp] theorem fAnd_s (f g : FT) (s : S) : fAnd f g s = (f s).bind fun b s => if b = true then g s else .ok false s := rfl
@[simp] theorem fOr_s (f g : FT) (s : S) : fOr f g s = (f s).bind fun b s => if b = true then .ok true s else g s := rfl
@[simp] theorem fNot_s (f : FT) (s : S) : fNot f s = (f s).bind fun b s => .ok (!b) s := rfl
@[simp] theorem fIf_s (c : FT) (f g : FE) (s : S) : fIf c f g s = (c s).bind fun b s => if b = true then f s else g s := rfl
def negD (d : D) : Option D := match d with
  | .int i => some (.int (-i))
  | _ => none
@[simp] theorem negD_i (i : Int) : negD (.int i) = some (.int (-i)) := rfl
@[simp] theorem fNeg_s (f : FE) (s : S) : fNeg f s = (f s).bind fun d s => R.of (negD d) s := by
  unfold fNeg negD
  congr 1; funext d s
  cases d <;> rfl
@[simp] theorem fIt_s (f : FE) (s : S) : fIt f s = (f s).bind fun d s => R.of (items d) s := rfl
@[simp] theorem items_list (ds : List D) : items (.list ds) = some ds := rfl
@[simp] theorem items_tuple (ds : List D) : items (.tuple ds) = some ds := rfl
def rL1 (ds : List D) : Option (List D) := match ds with
  | [d] => rng1 d
  | _ => none
def rL2 (ds : List D) : Option (List D) := match ds with
  | [d, e] => rng2 d e
  | _ => none
@[simp] theorem rL1_s (d : D) : rL1 [d] = rng1 d := rfl
@[simp] theorem rL2_s (d e : D) : rL2 [d, e] = rng2 d e := rfl
@[simp] theorem fR1_s (f : FA) (s : S) : fR1 f s = (f s).bind fun ds s => R.of (rL1 ds) s := by
  unfold fR1 rL1
  congr 1; funext ds s
  rcases ds with _ | ⟨a, _ | ⟨b, l⟩⟩ <;> rfl
@[simp] theorem fR2_s (f : FA) (s : S) : fR2 f s = (f s).bind fun ds s => R.of (rL2 ds) s := by
  unfold fR2 rL2
  congr 1; funext ds s
  rcases ds with _ | ⟨a, _ | ⟨b, _ | ⟨c, l⟩⟩⟩ <;> rfl
@[simp] theorem fFz_s (f : FA) (s : S) : fFz f s = (f s).bind fun ds s => .ok (.list ds) s := rfl
@[simp] theorem fLim_s (f : FA) (s : S) : fLim f s = (f s).bind fun ds s => if ds.length ≤ sizeLine then .ok ds s else .bad := rfl
@[simp] theorem fLen_s (f : FE) (s : S) : fLen f s = (f s).bind fun d s => R.of ((lenD d).map PyData.int) s := rfl
@[simp] theorem fB1_s (o : D → Option D) (f : FE) (s : S) : fB1 o f s = (f s).bind fun d s => R.of (o d) s := rfl
@[simp] theorem fIx_s (f g : FE) (s : S) : fIx f g s = (f s).bind fun a s => (g s).bind fun b s => R.of (dIx a b) s := rfl
@[simp] theorem fCall_s (n : Nat) (sem : Sem') (f : FA) (s : S) : fCall n sem f s = (f s).bind fun ds s => if ds.length = n then callR sem ds s else .bad := rfl
@[simp] theorem fYes_s (s : S) : fYes s = .ok true s := rfl
@[simp] theorem fComp_s (vs : List Nat) (fi : FA) (ft : FT) (fe : FE) (s : S) : fComp vs fi tg ft fe s = (fi s).bind fun ds s => cmpD vs tg ft fe ds 0 (kill vs s) := rfl
@[simp] theorem gNm_s (i : Nat) (d : D) (s : S) : gNm i d s = some (s.put i (.val d)) := rfl
@[simp] theorem put_mk (ρ : List (Option Ent)) (w : Wst) (i : Nat) (e : Ent) : S.put ⟨ρ, w⟩ i e = ⟨ρ.set i (some e), w⟩ := rfl
@[simp] theorem drop_mk (ρ : List (Option Ent)) (w : Wst) (i : Nat) : S.drop ⟨ρ, w⟩ i = ⟨ρ.set i none, w⟩ := rfl
@[simp] theorem kill_nil (s : S) : kill [] s = s := rfl
@[simp] theorem kill_cons (i : Nat) (l : List Nat) (s : S) : kill (i :: l) s = kill l (s.drop i) := rfl
def rdE (o : Option (Option Ent)) (s : S) (i : Nat) : R D :=
  match o with
  | some (some (.val d)) => .ok d s
  | some (some (.own ds)) => .ok (.list ds) (s.put i (.val (.list ds)))
  | some (some (.dic es)) => .ok (dicD es) (s.put i (.val (dicD es)))
  | _ => .bad
@[simp] theorem rdSlot_s (s : S) (i : Nat) : rdSlot s i = rdE s.ρ[i]? s i := rfl
@[simp] theorem rdE_dic (s : S) (i : Nat) (es : List (Key × D)) : rdE (some (some (.dic es))) s i = .ok (dicD es) (s.put i (.val (dicD es))) := rfl
@[simp] theorem rdE_val (s : S) (i : Nat) (d : D) : rdE (some (some (.val d))) s i = .ok d s := rfl
@[simp] theorem rdE_own (s : S) (i : Nat) (ds : List D) : rdE (some (some (.own ds))) s i = .ok (.list ds) (s.put i (.val (.list ds))) := rfl
def lkE (o : Option (Option Ent)) : Option D :=
  match o with
  | some (some (.val d)) => some d
  | some (some (.own ds)) => some (.list ds)
  | some (some (.dic es)) => some (dicD es)
  | _ => none
@[simp] theorem lkE_dic (es : List (Key × D)) : lkE (some (some (.dic es))) = some (dicD es) := rfl
@[simp] theorem look_s (s : S) (i : Nat) : look s i = lkE s.ρ[i]? := rfl
@[simp] theorem lkE_val (d : D) : lkE (some (some (.val d))) = some d := rfl
@[simp] theorem lkE_own (ds : List D) : lkE (some (some (.own ds))) = some (.list ds) := rfl
def thenR {α : Type} (o : Option D) (r : R α) : R α := match o with
  | none => .bad
  | some _ => r
def thenO (o : Option D) (r : O) : O := match o with
  | none => .bad
  | some _ => r
@[simp] theorem thenR_some {α : Type} (d : D) (r : R α) : thenR (some d) r = r := rfl
@[simp] theorem thenO_some (d : D) (r : O) : thenO (some d) r = r := rfl
@[simp] theorem fLenS_s (i : Nat) (s : S) : fLenS i s = R.of ((look s i).bind fun d => (lenD d).map PyData.int) s := rfl
@[simp] theorem lenD_list (ds : List D) : lenD (.list ds) = some (ds.length : Int) := rfl
@[simp] theorem lenD_tuple (ds : List D) : lenD (.tuple ds) = some (ds.length : Int) := rfl
@[simp] theorem dIx_list (ds : List D) (i : Int) : dIx (.list ds) (.int i) = atI ds i := rfl
@[simp] theorem dIx_tuple (ds : List D) (i : Int) : dIx (.tuple ds) (.int i) = atI ds i := rfl
@[simp] theorem fIxS_s {i : Nat} {g : FE} {s : S} : fIxS i g s = thenR (look s i) ((g s).bind fun b s => R.of ((look s i).bind fun a => dIx a b) s) := by
  unfold fIxS thenR
  cases look s i <;> rfl
@[simp] theorem fCmpS_s {o : D → D → Option D} {i : Nat} {g : FE} {s : S} : fCmpS o i g s = thenR (look s i) ((g s).bind fun b s => R.of ((look s i).bind fun a => o a b) s) := by
  unfold fCmpS thenR
  cases look s i <;> rfl
def appE (o : Option (Option Ent)) (i : Nat) (d : D) (s : S) : O := match o with
  | some (some (.own ds)) => if ds.length < sizeLine then .nx (s.put i (.own (ds ++ [d]))) else .bad
  | _ => .bad
def isL (o : Option D) (r : O) : O := match o with
  | some (.list _) => r
  | _ => .bad
@[simp] theorem isL_list (ds : List D) (r : O) : isL (some (.list ds)) r = r := rfl
@[simp] theorem sApp_s {i : Nat} {f : FE} {s : S} : sApp i f s = isL (look s i) ((f s).stm fun d s => appE s.ρ[i]? i d s) := by
  unfold sApp isL appE
  rfl
@[simp] theorem appE_own (i : Nat) (d : D) (s : S) (ds : List D) : appE (some (some (.own ds))) i d s = if ds.length < sizeLine then .nx (s.put i (.own (ds ++ [d]))) else .bad := rfl
def putO (o : Option Nat) (i : Nat) (ds : List D) (d : D) (s : S) : O := match o with
  | some n => .nx (s.put i (.own (ds.set n d)))
  | none => .bad
@[simp] theorem putO_some (n : Nat) (i : Nat) (ds : List D) (d : D) (s : S) : putO (some n) i ds d s = .nx (s.put i (.own (ds.set n d))) := rfl
def setE (o : Option (Option Ent)) (i : Nat) (d : D) (k : D) (s : S) : O := match o, k with
  | some (some (.own ds)), .int k => putO (ixN ds.length k) i ds d s
  | _, _ => .bad
@[simp] theorem setE_own (i : Nat) (d : D) (k : Int) (s : S) (ds : List D) : setE (some (some (.own ds))) i d (.int k) s = putO (ixN ds.length k) i ds d s := rfl
@[simp] theorem sSetIx_s {i : Nat} {f g : FE} {s : S} : sSetIx i f g s = (f s).stm fun d s => thenO (look s i) ((g s).stm fun j s => setE s.ρ[i]? i d j s) := by
  unfold sSetIx setE thenO putO
  cases f s <;> rfl
@[simp] theorem gTp_s (n : Nat) (h : FGs) (ds : List D) (s : S) : gTp n h (.tuple ds) s = if ds.length = n then h ds s else none := rfl
@[simp] theorem gCo_s (g : FG) (h : FGs) (d : D) (r : List D) (s : S) : gCo g h (d :: r) s = (g d s).bind (h r) := rfl
@[simp] theorem gNo_s (s : S) : gNo [] s = some s := rfl
def hdE {α : Type} (o : Option (Option Ent)) (r : R α) : R α := match o with
  | some (some .hdl) => r
  | _ => .bad
@[simp] theorem hdE_hdl {α : Type} (r : R α) : hdE (some (some .hdl)) r = r := rfl
@[simp] theorem fCallH_s {n i : Nat} {sem : Sem'} {f : FA} {s : S} : fCallH n i sem f s = hdE s.ρ[i]? ((f s).bind fun ds s => if ds.length = n then callR sem ds s else .bad) := rfl
@[simp] theorem fHd_s (i : Nat) (n : Int) (s : S) : fHd i n s = hdE s.ρ[i]? (R.of (hdAt n s.w) s) := rfl
def callE (r : FR) (s : S) : R D := match r with
  | .ret d w => .ok d ⟨s.ρ, w⟩
  | .exc k as w => .exc k as ⟨s.ρ, w⟩
  | .bad => .bad
@[simp] theorem callR_s (sem : Sem') (ds : List D) (s : S) : callR sem ds s = callE (sem ds s.w) s := rfl
@[simp] theorem callE_ret (d : D) (w : Wst) (s : S) : callE (.ret d w) s = .ok d ⟨s.ρ, w⟩ := rfl
@[simp] theorem callE_exc (k : Nat) (as : List D) (w : Wst) (s : S) : callE (.exc k as w) s = .exc k as ⟨s.ρ, w⟩ := rfl
@[simp] theorem dAddX_ii (i j : Int) : dAddX (.int i) (.int j) = some (.int (i + j)) := rfl
@[simp] theorem dAddI_ii (i j : Int) : dAddI (.int i) (.int j) = some (.int (i + j)) := rfl
@[simp] theorem dSub_ii (i j : Int) : dSub (.int i) (.int j) = some (.int (i - j)) := rfl
@[simp] theorem dLt_ii (i j : Int) : dLt (.int i) (.int j) = some (.bool (decide (i < j))) := rfl
@[simp] theorem dLe_ii (i j : Int) : dLe (.int i) (.int j) = some (.bool (decide (i ≤ j))) := rfl
@[simp] theorem dGt_ii (i j : Int) : dGt (.int i) (.int j) = some (.bool (decide (j < i))) := rfl
@[simp] theorem dGe_ii (i j : Int) : dGe (.int i) (.int j) = some (.bool (decide (j ≤ i))) := rfl
@[simp] theorem dEq_ii (i j : Int) : dEq (.int i) (.int j) = some (.bool (i == j)) := rfl
@[simp] theorem dNe_ii (i j : Int) : dNe (.int i) (.int j) = some (.bool (!(i == j))) := rfl
theorem dMod_ii {i j : Int} (h : 0 < j) : dMod (.int i) (.int j) = some (.int (i % j)) := by simp [dMod, dI, h]
theorem dMul_r {i j : Int} (h0 : -(2 ^ 64) < j) (h : j < 2 ^ 64) : dMul (.int i) (.int j) = some (.int (i * j)) := by simp only [dMul, dI]; rw [if_pos (.inl (.inr ⟨h0, h⟩))]; rfl
theorem dMul_l {i j : Int} (h0 : -(2 ^ 64) < i) (h : i < 2 ^ 64) : dMul (.int i) (.int j) = some (.int (i * j)) := by simp only [dMul, dI]; rw [if_pos (.inl (.inl ⟨h0, h⟩))]; rfl
theorem dDiv_ii {i j : Int} (h0 : 0 < j) (h : j < 2 ^ 8999) : dDiv (.int i) (.int j) = some (.int (i / j)) := by
  have z : CDivW i j := ⟨h0, PySem.Flt.log2_lt_of (by decide) (by
    have e : (j.natAbs : Int) = j := by omega
    have e2 : (j.natAbs : Int) < 2 ^ 8999 := by rw [e]; exact h
    have e3 : ((2 ^ 8999 : Nat) : Int) = (2 : Int) ^ 8999 := Int.natCast_pow 2 8999
    rw [← e3] at e2
    have := Int.ofNat_lt.mp e2
    exact Nat.lt_of_lt_of_le this (Nat.pow_le_pow_right (by decide) (by decide)))⟩
  simp only [dDiv, dI]; rw [if_pos z]; rfl
theorem dShr_ii {i j : Int} (h : 0 ≤ j) : dShr (.int i) (.int j) = some (.int (i / 2 ^ j.toNat)) := by simp [dShr, dI, h]
theorem rng1_i {j : Int} (h0 : -(2 ^ 62) ≤ j) (h : j < 2 ^ 62) : rng1 (.int j) = some (upTo 0 j.toNat) := by simp only [rng1]; rw [if_pos ⟨h0, h⟩]
theorem rng2_i {i j : Int} (a0 : -(2 ^ 62) ≤ i) (a : i < 2 ^ 62) (h0 : -(2 ^ 62) ≤ j) (h : j < 2 ^ 62) : rng2 (.int i) (.int j) = some (upTo i (j - i).toNat) := by simp only [rng2]; rw [if_pos ⟨a0, a, h0, h⟩]
@[simp] theorem intsD_nil : intsD [] = some [] := rfl
@[simp] theorem intsD_cons (i : Int) (l : List D) : intsD (.int i :: l) = (intsD l).map (i :: ·) := by cases h : intsD l <;> simp [intsD, intD, h]
theorem atI_nn {α : Type} {xs : List α} {i : Nat} (h : i < xs.length) : atI xs (i : Int) = some xs[i] := by
  unfold atI ixN
  simp [h]
def nD (n : Nat) : D := .int (n : Int)
theorem rng1_nat {n : Nat} (h : n < 2 ^ 62) : rng1 (.int (n : Int)) = some ((List.range n).map nD) := by
  rw [rng1_i (by omega) (by omega)]
  unfold PD.upTo nD
  simp
@[simp] theorem outF_rt (d : D) (s : S) : outF (.rt d s) = .ret d s.w := rfl
@[simp] theorem outF_nx (s : S) : outF (.nx s) = .ret .none s.w := rfl
@[simp] theorem outF_exc (k : Nat) (as : List D) (s : S) : outF (.exc k as s) = .exc k as s.w := rfl
def lr2D (a b : D) : Option (List D) := match a, b with
  | .int i, .int j => if -(2 ^ 62) ≤ i ∧ i < 2 ^ 62 ∧ -(2 ^ 62) ≤ j ∧ j < 2 ^ 62 ∧ (j - i).toNat ≤ 2 ^ 24 then some (upTo i (j - i).toNat) else none
  | _, _ => none
@[simp] theorem fLR2_s (f g : FE) (s : S) : fLR2 f g s = (f s).bind fun a s => (g s).bind fun b s => R.of (lr2D a b) s := by
  unfold fLR2 lr2D
  congr 1; funext a s; congr 1; funext b s
  cases a <;> try rfl
  cases b <;> try rfl
  dsimp only
  split <;> rfl
theorem lr2D_nat {a b : Nat} (h0 : a ≤ 2 ^ 24) (h : b ≤ 2 ^ 24) : lr2D (.int (a : Int)) (.int (b : Int)) = some (((List.range (b - a)).map (a + ·)).map nD) := by
  unfold lr2D
  dsimp only
  by_cases hab : a ≤ b
  · rw [if_pos (by omega), show ((b : Int) - (a : Int)).toNat = b - a by omega]
    unfold PD.upTo nD
    rw [List.map_map]
    congr 1
  · rw [if_pos (by omega), show ((b : Int) - (a : Int)).toNat = 0 by omega, show b - a = 0 by omega]
    rfl
def setSD (d : D) : Option (List D) := match d with
  | .list ds => (intsD ds).bind fun ns => if ns.length < 64 then some ((sortSet ns).map PyData.int) else none
  | _ => none
@[simp] theorem fSortSet_s (f : FE) (s : S) : fSortSet f s = (f s).bind fun d s => R.of (setSD d) s := by
  unfold fSortSet setSD
  congr 1; funext d s
  cases d <;> rfl
theorem setSD_ints {l : List Int} (h : l.length < 64) : setSD (.list (l.map PyData.int)) = some ((sortSet l).map PyData.int) := by
  unfold setSD
  dsimp only
  rw [intsD_map, Option.bind_some, if_pos h]
def catD (a b : D) : Option (List D) := match a, b with
  | .list x, .list y => if x.length + y.length ≤ sizeLine then some (x ++ y) else none
  | _, _ => none
@[simp] theorem fCatL_s (f g : FE) (s : S) : fCatL f g s = (f s).bind fun a s => (g s).bind fun b s => R.of (catD a b) s := by
  unfold fCatL catD
  congr 1; funext a s; congr 1; funext b s
  cases a <;> try rfl
  cases b <;> try rfl
  dsimp only
  split <;> rfl
theorem catD_ll {x y : List D} (h : x.length + y.length ≤ sizeLine) : catD (.list x) (.list y) = some (x ++ y) := by
  unfold catD
  dsimp only
  rw [if_pos h]
def revD (d : D) : Option (List D) := match d with
  | .list x => some x.reverse
  | _ => none
@[simp] theorem revD_l (x : List D) : revD (.list x) = some x.reverse := rfl
@[simp] theorem fRevL_s (f : FE) (s : S) : fRevL f s = (f s).bind fun d s => R.of (revD d) s := by
  unfold fRevL revD
  congr 1; funext d s
  cases d <;> rfl
/-- what data are told apart by comparing -/
def Shp (n : Nat) (d : D) : Prop := d.canLay0 = true ∧ d.depth ≤ n
theorem Shp.mono {n m : Nat} {d : D} (h : Shp n d) (hm : n ≤ m) : Shp m d := ⟨h.1, Nat.le_trans h.2 hm⟩
theorem Shp.int {n : Nat} {i : Int} : Shp n (.int i) := ⟨rfl, Nat.zero_le _⟩
theorem Shp.bool {n : Nat} {i : Bool} : Shp n (.bool i) := ⟨rfl, Nat.zero_le _⟩
theorem Shp.none {n : Nat} : Shp n .none := ⟨rfl, Nat.zero_le _⟩
theorem Shp.all {n : Nat} : ∀ {ds : List D}, (∀ d ∈ ds, Shp n d) → PyData.canLayAll0 ds = true ∧ PyData.depthAll ds ≤ n
  | [], _ => ⟨rfl, Nat.zero_le _⟩
  | d :: ds, h => by
    have h1 := h d List.mem_cons_self
    have h2 := Shp.all fun x hx => h x (List.mem_cons_of_mem _ hx)
    refine ⟨?_, ?_⟩
    · rw [PyData.canLayAll0, h1.1, h2.1]; rfl
    · rw [PyData.depthAll]; exact Nat.max_le.mpr ⟨h1.2, h2.2⟩
theorem Shp.list {n : Nat} {ds : List D} (h : ∀ d ∈ ds, Shp n d) : Shp (n + 1) (.list ds) := ⟨by rw [PyData.canLay0]; exact (Shp.all h).1, by rw [PyData.depth]; have := (Shp.all h).2; omega⟩
theorem Shp.tuple {n : Nat} {ds : List D} (h : ∀ d ∈ ds, Shp n d) : Shp (n + 1) (.tuple ds) := ⟨by rw [PyData.canLay0]; exact (Shp.all h).1, by rw [PyData.depth]; have := (Shp.all h).2; omega⟩
theorem Shp.ok {n : Nat} {d : D} (h : Shp n d) (hn : n ≤ 64) : SeqAt.shaped d = true := by
  unfold SeqAt.shaped
  rw [h.1, decide_eq_true (Nat.le_trans h.2 hn)]; rfl
theorem Shp.ints {n : Nat} {l : List Int} : Shp (n + 1) (.list (l.map PyData.int)) := .list fun d hd => by
  obtain ⟨i, _, e⟩ := List.mem_map.mp hd
  subst e
  exact .int
theorem Shp.refl {n : Nat} {d : D} (h : Shp n d) : PyData.eqv d d = true := SeqAt.eqv_refl d h.1
theorem dNe_refl {n : Nat} {d : D} (h : Shp n d) (hn : n ≤ 64) : dNe d d = some (.bool false) := by
  unfold dNe; rw [if_pos ⟨h.ok hn, h.ok hn⟩, h.refl]; rfl
theorem dEq_refl {n : Nat} {d : D} (h : Shp n d) (hn : n ≤ 64) : dEq d d = some (.bool true) := by
  unfold dEq; rw [if_pos ⟨h.ok hn, h.ok hn⟩, h.refl]
theorem dNe_nil {n : Nat} {ds : List D} (h : Shp n (.list ds)) (hn : n ≤ 64) : dNe (.list ds) (.list []) = some (.bool (!ds.isEmpty)) := by
  unfold dNe; rw [if_pos ⟨h.ok hn, rfl⟩]
  cases ds <;> rfl
theorem dEq_nil {n : Nat} {ds : List D} (h : Shp n (.list ds)) (hn : n ≤ 64) : dEq (.list ds) (.list []) = some (.bool ds.isEmpty) := by
  unfold dEq; rw [if_pos ⟨h.ok hn, rfl⟩]
  cases ds <;> rfl
theorem any_int (l : List Int) (i : Int) : ((l.map PyData.int).any fun z => PyData.eqv z (.int i)) = decide (i ∈ l) := by
  induction l with
  | nil => rfl
  | cons x l ih =>
    rw [List.map_cons, List.any_cons, ih]
    by_cases h : x = i
    · subst h; simp [PyData.eqv]
    · have h' : ¬ i = x := fun e => h e.symm
      simp [PyData.eqv, h, h']
theorem dIn_int {l : List Int} {i : Int} : dIn (.int i) (.list (l.map PyData.int)) = some (.bool (decide (i ∈ l))) := by
  unfold dIn dInX; dsimp only; rw [if_pos ⟨rfl, Shp.ok (n := 1) Shp.ints (by decide)⟩, any_int, Bool.false_xor]
theorem dNin_int {l : List Int} {i : Int} : dNin (.int i) (.list (l.map PyData.int)) = some (.bool (!decide (i ∈ l))) := by
  unfold dNin dInX; dsimp only; rw [if_pos ⟨rfl, Shp.ok (n := 1) Shp.ints (by decide)⟩, any_int, Bool.true_xor]
theorem forD_inv (Inv : S → Prop) : ∀ (ds : List D) (s : S), Inv s → (∀ d ∈ ds, ∀ s, Inv s → ∃ s1 s2, tg d s = some s1 ∧ (body s1 = .nx s2 ∨ body s1 = .ct s2) ∧ Inv (kill kl s2)) → ∃ s', forD kl tg body ds s = .nx s' ∧ Inv s'
  | [], s, h, _ => ⟨s, rfl, h⟩
  | d :: ds, s, h, hb => by
    obtain ⟨s1, s2, e1, e2, h2⟩ := hb d List.mem_cons_self s h
    obtain ⟨s', e', h'⟩ := forD_inv Inv ds (kill kl s2) h2 fun d hd => hb d (List.mem_cons_of_mem _ hd)
    refine ⟨s', ?_, h'⟩
    rw [forD, e1]
    dsimp only
    rcases e2 with e2 | e2 <;> rw [e2] <;> exact e'
theorem forD_fold {α β : Type} (v : β → D) (st : α → S) (step : α → β → α) (I : α → Prop) : ∀ (xs : List β), (∀ a x, x ∈ xs → I a → I (step a x) ∧ ∃ s1 s2, tg (v x) (st a) = some s1 ∧ (body s1 = .nx s2 ∨ body s1 = .ct s2) ∧ kill kl s2 = st (step a x)) →
    ∀ a, I a → forD kl tg body (xs.map v) (st a) = .nx (st (xs.foldl step a)) ∧ I (xs.foldl step a)
  | [], _, a, h => ⟨rfl, h⟩
  | x :: xs, hb, a, h => by
    obtain ⟨i2, s1, s2, e1, e2, e3⟩ := hb a x List.mem_cons_self h
    have ih := forD_fold v st step I xs (fun a x hx => hb a x (List.mem_cons_of_mem _ hx)) (step a x) i2
    refine ⟨?_, ih.2⟩
    rw [List.map_cons, forD, e1]
    dsimp only
    rcases e2 with e2 | e2 <;> rw [e2] <;> (show forD kl tg body (xs.map v) (kill kl s2) = _) <;> rw [e3] <;> exact ih.1
theorem forD_foldi {α β : Type} (v : β → D) (st : α → S) (step : α → β → α) (I : Nat → α → Prop) : ∀ (xs : List β) (n : Nat), (∀ i a x, xs[i]? = some x → I (n + i) a → I (n + i + 1) (step a x) ∧ ∃ s1 s2, tg (v x) (st a) = some s1 ∧ (body s1 = .nx s2 ∨ body s1 = .ct s2) ∧ kill kl s2 = st (step a x)) →
    ∀ a, I n a → forD kl tg body (xs.map v) (st a) = .nx (st (xs.foldl step a)) ∧ I (n + xs.length) (xs.foldl step a)
  | [], _, _, a, h => ⟨rfl, h⟩
  | x :: xs, n, hb, a, h => by
    obtain ⟨i2, s1, s2, e1, e2, e3⟩ := hb 0 a x rfl h
    have ih := forD_foldi v st step I xs (n + 1) (fun i a x hx hi => by
      have z := hb (i + 1) a x hx (by rw [show n + (i + 1) = n + 1 + i by omega]; exact hi)
      rw [show n + (i + 1) = n + 1 + i by omega] at z
      exact z) (step a x) i2
    refine ⟨?_, by rw [List.length_cons, show n + (xs.length + 1) = n + 1 + xs.length by omega]; exact ih.2⟩
    rw [List.map_cons, forD, e1]
    dsimp only
    rcases e2 with e2 | e2 <;> rw [e2] <;> (show forD kl tg body (xs.map v) (kill kl s2) = _) <;> rw [e3] <;> exact ih.1
theorem cmpD_pure {β : Type} {vs : List Nat} {ft : FT} {fe : FE} (v : β → D) (p : β → Bool) (g : β → D) (s : S) : ∀ (xs : List β),
    (∀ x ∈ xs, ∃ s1 s2, tg (v x) s = some s1 ∧ ft s1 = .ok (p x) s2 ∧ (p x = true → ∃ s3, fe s2 = .ok (g x) s3 ∧ kill vs s3 = s) ∧ (p x = false → kill vs s2 = s)) →
    ∀ n, n + xs.length ≤ sizeLine → cmpD vs tg ft fe (xs.map v) n s = .ok ((xs.filter p).map g) s
  | [], _, n, _ => rfl
  | x :: xs, h, n, hn => by
    obtain ⟨s1, s2, e1, e2, e3, e4⟩ := h x List.mem_cons_self
    have ih := cmpD_pure (vs := vs) (ft := ft) (fe := fe) v p g s xs fun x hx => h x (List.mem_cons_of_mem _ hx)
    rw [List.length_cons] at hn
    rw [List.map_cons, cmpD, e1]
    dsimp only
    simp only [e2, R.nox_ok, R.bind_ok]
    cases hp : p x with
    | true =>
      obtain ⟨s3, e5, e6⟩ := e3 hp
      rw [if_pos rfl, e5]
      simp only [R.nox_ok, R.bind_ok]
      rw [if_pos (by omega), e6, ih (n + 1) (by omega), List.filter_cons, if_pos hp]
      rfl
    | false =>
      rw [if_neg (by decide), e4 hp, ih n (by omega), List.filter_cons, if_neg (by rw [hp]; decide)]
theorem cmpD_inv {vs : List Nat} {ft : FT} {fe : FE} (Inv : S → Prop) (Q : D → Prop) : ∀ (ds : List D),
    (∀ d ∈ ds, ∀ s, Inv s → ∃ s1 b s2, tg d s = some s1 ∧ ft s1 = .ok b s2 ∧ (b = true → ∃ y s3, fe s2 = .ok y s3 ∧ Q y ∧ Inv (kill vs s3)) ∧ (b = false → Inv (kill vs s2))) →
    ∀ n s, n + ds.length ≤ sizeLine → Inv s → ∃ ys s', cmpD vs tg ft fe ds n s = .ok ys s' ∧ Inv s' ∧ (∀ y ∈ ys, Q y) ∧ ys.length ≤ ds.length
  | [], _, n, s, _, hs => ⟨[], s, rfl, hs, (fun _ h => nomatch h), Nat.le_refl _⟩
  | d :: ds, h, n, s, hn, hs => by
    obtain ⟨s1, b, s2, e1, e2, e3, e4⟩ := h d List.mem_cons_self s hs
    have ih := cmpD_inv (vs := vs) (ft := ft) (fe := fe) Inv Q ds fun x hx => h x (List.mem_cons_of_mem _ hx)
    rw [List.length_cons] at hn
    rw [cmpD, e1]
    simp only [e2, R.nox_ok, R.bind_ok]
    cases b with
    | true =>
      obtain ⟨y, s3, e5, q, e6⟩ := e3 rfl
      obtain ⟨ys, s', e7, i7, q7, l7⟩ := ih (n + 1) _ (by omega) e6
      refine ⟨y :: ys, s', ?_, i7, ?_, ?_⟩
      · rw [if_pos rfl, e5]
        simp only [R.nox_ok, R.bind_ok]
        rw [if_pos (by omega), e7]
        rfl
      · intro z hz
        rcases List.mem_cons.mp hz with e | hz
        · rw [e]; exact q
        · exact q7 z hz
      · simp only [List.length_cons]; omega
    | false =>
      obtain ⟨ys, s', e7, i7, q7, l7⟩ := ih n _ (by omega) (e4 rfl)
      refine ⟨ys, s', ?_, i7, q7, ?_⟩
      · rw [if_neg (by decide), e7]
      · simp only [List.length_cons]; omega
theorem cmpD_inv_eq {vs : List Nat} {ft : FT} {fe : FE} (Inv : S → Prop) (Q : D → Prop) : ∀ (ds : List D),
    (∀ d ∈ ds, ∀ s, Inv s → ∃ s1 s2 y s3, tg d s = some s1 ∧ ft s1 = .ok true s2 ∧ fe s2 = .ok y s3 ∧ Q y ∧ Inv (kill vs s3)) →
    ∀ n s, n + ds.length ≤ sizeLine → Inv s → ∃ ys s', cmpD vs tg ft fe ds n s = .ok ys s' ∧ Inv s' ∧ (∀ y ∈ ys, Q y) ∧ ys.length = ds.length
  | [], _, n, s, _, hs => ⟨[], s, rfl, hs, (fun _ h => nomatch h), rfl⟩
  | d :: ds, h, n, s, hn, hs => by
    obtain ⟨s1, s2, y, s3, e1, e2, e5, q, e6⟩ := h d List.mem_cons_self s hs
    have ih := cmpD_inv_eq (vs := vs) (ft := ft) (fe := fe) Inv Q ds fun x hx => h x (List.mem_cons_of_mem _ hx)
    rw [List.length_cons] at hn
    obtain ⟨ys, s', e7, i7, q7, l7⟩ := ih (n + 1) _ (by omega) e6
    refine ⟨y :: ys, s', ?_, i7, ?_, ?_⟩
    · rw [cmpD, e1]
      simp only [e2, R.nox_ok, R.bind_ok]
      rw [if_pos trivial, e5]
      simp only [R.nox_ok, R.bind_ok]
      rw [if_pos (by omega), e7]
      rfl
    · intro z hz
      rcases List.mem_cons.mp hz with e | hz
      · rw [e]; exact q
      · exact q7 z hz
    · simp only [List.length_cons]; omega
theorem ints_of {P : Int → Prop} : ∀ {ys : List D}, (∀ y ∈ ys, ∃ i, y = .int i ∧ P i) → ∃ l : List Int, ys = l.map PyData.int ∧ ∀ i ∈ l, P i
  | [], _ => ⟨[], rfl, (fun _ h => nomatch h)⟩
  | y :: ys, h => by
    obtain ⟨i, e, hi⟩ := h y List.mem_cons_self
    obtain ⟨l, e2, hl⟩ := ints_of fun y hy => h y (List.mem_cons_of_mem _ hy)
    refine ⟨i :: l, by rw [e, e2]; rfl, fun j hj => ?_⟩
    rcases List.mem_cons.mp hj with e3 | hj
    · rw [e3]; exact hi
    · exact hl j hj
theorem upTo_eq (lo : Int) (n : Nat) : upTo lo n = ((List.range n).map fun (i : Nat) => lo + (i : Int)).map PyData.int := by
  unfold upTo
  rw [List.map_map]
  rfl
end
end PD
namespace PD
open PySem PySem.Spec L2
open PyProof.Rows hiding St
/-! ### more plain laws -/
def asgO (o : Option S) : O := match o with
  | some s => .nx s
  | none => .bad
@[simp] theorem asgO_some (s : S) : asgO (some s) = .nx s := rfl
@[simp] theorem sAsg_gTp (f : FE) (n : Nat) (h : FGs) (s : S) : sAsg f (gTp n h) s = (f s).stm fun d s => asgO (gTp n h d s) := rfl
theorem getD_lt {α : Type} {m : List α} {x : Nat} {d : α} (h : x < m.length) : m.getD x d = m[x] := by simp [List.getD_eq_getElem?_getD, h]
/-- the i-th number -/
def nth (m : List Nat) (x : Nat) : Nat := m.getD x 0
theorem nth_lt {m : List Nat} {x : Nat} (h : x < m.length) : nth m x = m[x] := getD_lt h
theorem nth_mem {m : List Nat} {x : Nat} (h : x < m.length) : nth m x ∈ m := by rw [nth_lt h]; exact List.getElem_mem h
theorem atI_nD {m : List Nat} {x : Nat} (h : x < m.length) : atI (m.map nD) (x : Int) = some (nD (nth m x)) := by
  rw [atI_nn (by rw [List.length_map]; exact h), List.getElem_map, nth_lt h]
theorem dMul_nat_l {a b : Nat} (h : a < 2 ^ 60) : dMul (.int (a : Int)) (.int (b : Int)) = some (.int ((a * b : Nat) : Int)) := by
  rw [dMul_l (by omega) (by omega), Int.natCast_mul]
theorem nD_eq (n : Nat) : nD n = .int (n : Int) := rfl
theorem nD_ofNat (n : Nat) : (PyData.int (OfNat.ofNat n : Int)) = nD n := rfl
@[simp] theorem fStar_s (f : FE) (g : FA) (s : S) : fStar f g s = (f s).bind fun d s => (R.of (items d) s).bind fun xs s => (g s).bind fun ds s => .ok (xs ++ ds) s := by
  unfold fStar
  congr 1; funext d s
  cases d <;> rfl
@[simp] theorem fListF_s (f : FE) (s : S) : fListF f s = (f s).bind fun d s => R.of (items d) s := rfl
@[simp] theorem dTup_list (ds : List D) : dTup (.list ds) = some (.tuple ds) := rfl
@[simp] theorem dTup_tuple (ds : List D) : dTup (.tuple ds) = some (.tuple ds) := rfl
theorem shl1_nat (x : Nat) (hx : x < 1000) : dShl (.int 1) (.int (x : Int)) = some (.int ((2 ^ x : Nat) : Int)) := by
  have hc : CShl 1 (x : Int) := ⟨by omega, by show ((1 : Nat) : Int) + x ≤ 2 ^ 27; omega⟩
  simp only [dShl, dI]
  rw [if_pos hc, Int.one_mul, Int.toNat_natCast, Int.natCast_pow]
  rfl
end PD
namespace PD
open PySem PySem.Spec L2
open PyProof.Rows hiding St
@[simp] theorem wst_eta (w : Wst) : (⟨w.ns, w.k⟩ : Wst) = w := rfl
def borR (r : FR) (s : S) : R D := match r with
  | .ret d w => if atomD d = true then .ok d ⟨s.ρ, ⟨s.w.ns, w.k⟩⟩ else .bad
  | .exc k as w => if as.all atomD = true then .exc k as ⟨s.ρ, ⟨s.w.ns, w.k⟩⟩ else .bad
  | .bad => .bad
def borE (o : Option (List D)) (n : Nat) (sem : Sem') (s : S) : R D := match o with
  | none => .bad
  | some ds => if ds.length = n then borR (sem ds s.w) s else .bad
@[simp] theorem fCallB_s (n : Nat) (sem : Sem') (f : FBs) (s : S) : fCallB n sem f s = borE (f s) n sem s := rfl
@[simp] theorem borE_some (ds : List D) (n : Nat) (sem : Sem') (s : S) : borE (some ds) n sem s = if ds.length = n then borR (sem ds s.w) s else .bad := rfl
@[simp] theorem borR_ret (d : D) (w : Wst) (s : S) : borR (.ret d w) s = if atomD d = true then .ok d ⟨s.ρ, ⟨s.w.ns, w.k⟩⟩ else .bad := rfl
@[simp] theorem atomD_int (i : Int) : atomD (.int i) = true := rfl
@[simp] theorem atomD_nD (i : Nat) : atomD (nD i) = true := rfl
@[simp] theorem bSlot_s (i : Nat) (s : S) : bSlot i s = lkE s.ρ[i]? := rfl
@[simp] theorem bCst_s (d : D) (s : S) : bCst d s = some d := rfl
@[simp] theorem bAll0_s (s : S) : bAll0 s = some [] := rfl
@[simp] theorem bAll1_s (f : FB) (g : FBs) (s : S) : bAll1 f g s = (f s).bind fun d => (g s).map fun ds => d :: ds := rfl
end PD
namespace PD
open PySem PySem.Spec L2
open PyProof.Rows hiding St
@[simp] theorem fRepL_s (f : FA) (g : FE) (s : S) : fRepL f g s = (f s).bind fun ds s => if ds.length ≤ sizeLine then (g s).nox.bind fun k s => R.of (repD ds k) s else .bad := rfl
theorem rep_one {α : Type} (d : α) : ∀ k : Nat, (List.replicate k [d]).flatten = List.replicate k d
  | 0 => rfl
  | k + 1 => by rw [List.replicate_succ, List.flatten_cons, rep_one d k]; rfl
theorem repD_nat {d : D} {k : Nat} (h : k ≤ 2 ^ 20) : repD [d] (.int (k : Int)) = some (List.replicate k d) := by
  unfold repD
  have : (2 ^ 20 : Nat) ≤ sizeLine := by decide
  dsimp only
  rw [if_pos (by refine ⟨by omega, by omega, ?_⟩; rw [Int.toNat_natCast, List.length_singleton, Nat.one_mul]; omega), Int.toNat_natCast, rep_one]
end PD
namespace PD
open PySem PySem.Spec L2
open PyProof.Rows hiding St
theorem dAnd_nD (a b : Nat) : dAnd (nD a) (nD b) = some (nD (a &&& b)) := by
  show some (PyData.int (Builtin.bitAnd _ _)) = _
  rw [bitAnd_pp (Int.natCast_nonneg _) (Int.natCast_nonneg _), Int.toNat_natCast, Int.toNat_natCast]
  rfl
theorem dOr_nD (a b : Nat) : dOr (nD a) (nD b) = some (nD (a ||| b)) := by
  show some (PyData.int (Builtin.bitOr _ _)) = _
  rw [Bits.bitOr_pp (Int.natCast_nonneg _) (Int.natCast_nonneg _), Int.toNat_natCast, Int.toNat_natCast]
  rfl
theorem dXor_nD (a b : Nat) : dXor (nD a) (nD b) = some (nD (a ^^^ b)) := by
  show some (PyData.int (Builtin.bitXor _ _)) = _
  rw [Bits.bitXor_pp (Int.natCast_nonneg _) (Int.natCast_nonneg _), Int.toNat_natCast, Int.toNat_natCast]
  rfl
theorem dShr_nD (a b : Nat) : dShr (nD a) (nD b) = some (nD (a / 2 ^ b)) := by
  unfold nD
  rw [dShr_ii (Int.natCast_nonneg _), Int.toNat_natCast, Int.natCast_ediv, Int.natCast_pow]
  rfl
theorem shl_nD {a b : Nat} (ha : a < 2 ^ 64) (hb : b < 1000000) : dShl (nD a) (nD b) = some (nD (a * 2 ^ b)) := by
  have h1 : Builtin.Int.intBits (a : Int) ≤ 64 := intBits_le_64 (by omega) (by omega)
  have hc : CShl (a : Int) (b : Int) := ⟨by omega, by omega⟩
  unfold nD
  simp only [dShl, dI]
  rw [if_pos hc, Int.toNat_natCast, Int.natCast_mul, Int.natCast_pow]
  rfl
theorem and_one (x : Nat) : x &&& 1 = x % 2 := by
  have := Nat.and_two_pow_sub_one_eq_mod x 1
  simpa using this
theorem enumFrom_nat (v : Nat → D) : ∀ (l : List Nat) (k : Nat), enumFrom (k : Int) (l.map v) = (l.zipIdx k).map fun p => .tuple [nD p.2, v p.1]
  | [], _ => rfl
  | x :: l, k => by
    have z := enumFrom_nat v l (k + 1)
    rw [List.map_cons, enumFrom, List.zipIdx_cons, List.map_cons, ← z]
    rfl
@[simp] theorem fEnum_s (f : FE) (s : S) : fEnum f s = (f s).bind fun d s => R.of ((items d).map (enumFrom 0)) s := rfl
theorem dSub_nD {a b : Nat} (h : b ≤ a) : dSub (nD a) (nD b) = some (nD (a - b)) := by
  show some (PyData.int _) = some (PyData.int _)
  congr 2
  omega
theorem dEq_nD (a b : Nat) : dEq (nD a) (nD b) = some (.bool (decide (a = b))) := by
  unfold nD
  rw [dEq_ii]
  congr 2
  by_cases h : a = b
  · subst h; simp
  · have h' : ¬ (a : Int) = (b : Int) := by omega
    simp [h, h']
end PD
/-! PDy: more plain laws: slices, tuples put together -/
namespace PD
open PySem PySem.Spec L2
open PyProof.Rows hiding St
def ptD (d : D) : Option (Option Int) := match d with
  | .int i => some (some i)
  | _ => none
@[simp] theorem ptD_i (i : Int) : ptD (.int i) = some (some i) := rfl
@[simp] theorem ptD_nD (n : Nat) : ptD (nD n) = some (some (n : Int)) := rfl
@[simp] theorem fNoP_s (s : S) : fNoP s = .ok none s := rfl
@[simp] theorem fPt_s (f : FE) (s : S) : fPt f s = (f s).bind fun d s => R.of (ptD d) s := by
  unfold fPt ptD
  congr 1; funext d s
  cases d <;> rfl
@[simp] theorem fCutX_s (f : FE) (l u : FP) (s : S) : fCutX f l u s = (f s).bind fun d s => (l s).bind fun l s => (u s).bind fun u s => R.of (dCutX d l u) s := rfl
@[simp] theorem dCutX_list (ds : List D) (l u : Option Int) : dCutX (.list ds) l u = some (.list (cutG ds l u)) := rfl
@[simp] theorem dCutX_tuple (ds : List D) (l u : Option Int) : dCutX (.tuple ds) l u = some (.tuple (cutG ds l u)) := rfl
theorem cutG_to {α : Type} (xs : List α) (n : Nat) : cutG xs none (some (n : Int)) = xs.take n := by
  unfold cutG
  rw [HT.sIx_nat, HT.sIx_none, List.drop_zero, Nat.sub_zero]
  rcases Nat.le_total n xs.length with h | h
  · rw [Nat.min_eq_left h]
  · rw [Nat.min_eq_right h, List.take_of_length_le (Nat.le_refl _), List.take_of_length_le h]
theorem cutG_from {α : Type} (xs : List α) (n : Nat) : cutG xs (some (n : Int)) none = xs.drop n := by
  unfold cutG
  rw [HT.sIx_nat, HT.sIx_none]
  rcases Nat.le_total n xs.length with h | h
  · rw [Nat.min_eq_left h, List.take_of_length_le (by rw [List.length_drop]; omega)]
  · rw [Nat.min_eq_right h, List.drop_of_length_le (Nat.le_refl _), List.drop_of_length_le h, List.take_nil]
theorem dAddX_tt {a b : List D} (h : a.length + b.length ≤ sizeLine) : dAddX (.tuple a) (.tuple b) = some (.tuple (a ++ b)) := by
  have e : dAddX (.tuple a) (.tuple b) = dAddT (.tuple a) (.tuple b) := rfl
  rw [e]
  unfold dAddT
  dsimp only
  rw [if_pos h]
@[simp] theorem dAddX_nn (a b : Nat) : dAddX (nD a) (nD b) = some (nD (a + b)) := rfl
theorem sSeq_assoc (f g h : FO) : sSeq (sSeq f g) h = sSeq f (sSeq g h) := by
  funext s
  unfold sSeq
  cases f s <;> rfl
end PD
/-! PDz: more plain laws: texts, lists of its own put together -/
namespace PD
open PySem PySem.Spec L2
open PyProof.Rows hiding St
@[simp] theorem fItX_s (f : FE) (s : S) : fItX f s = (f s).bind fun d s => R.of (itemsX d) s := rfl
@[simp] theorem itemsX_list (ds : List D) : itemsX (.list ds) = some ds := rfl
@[simp] theorem itemsX_tuple (ds : List D) : itemsX (.tuple ds) = some ds := rfl
@[simp] theorem itemsX_str (z : Str) : itemsX (.str z) = some (signs z) := rfl
@[simp] theorem fEnumK_s (f g : FE) (s : S) : fEnumK f g s = (f s).bind fun d s => (g s).bind fun k s => R.of (stD k d) s := rfl
@[simp] theorem isS_str {α : Type} (z : Str) (k : Str → R α) : isS (.str z) k = k z := rfl
@[simp] theorem fJoin_s (f g : FE) (s : S) : fJoin f g s = (f s).bind fun a s => isS a fun z => (g s).bind fun b s => R.of (joinD z b) s := rfl
@[simp] theorem fSplit_s (f g : FE) (s : S) : fSplit f g s = (f s).bind fun a s => isS a fun z => (g s).bind fun b s => R.of (splitD z b) s := rfl
@[simp] theorem fIts_nil (s : S) : fIts [] s = .ok [] s := rfl
@[simp] theorem fIts_inl (f : FE) (r : List FI) (s : S) : fIts (.inl f :: r) s = (f s).bind fun d s => (fIts r s).bind fun es s => .ok (.val d :: es) s := rfl
@[simp] theorem fIts_inr (f : S → R Ent) (r : List FI) (s : S) : fIts (.inr f :: r) s = (f s).bind fun d s => (fIts r s).bind fun es s => .ok (d :: es) s := rfl
@[simp] theorem fO_s (f : FA) (s : S) : fO f s = (f s).bind fun ds s => .ok (.own ds) s := rfl
@[simp] theorem putEs_nil (s : S) : putEs [] [] s = .nx s := rfl
@[simp] theorem putEs_cons (i : Nat) (is : List Nat) (e : Ent) (es : List Ent) (s : S) : putEs (i :: is) (e :: es) s = putEs is es (s.put i e) := rfl
@[simp] theorem sMix_s (is : List Nat) (f : S → R (List Ent)) (s : S) : sMix is f s = (f s).stm fun es s => putEs is es s := rfl
@[simp] theorem putAll_nil (s : S) : putAll [] [] s = .nx s := rfl
@[simp] theorem putAll_cons (i : Nat) (is : List Nat) (e : D) (es : List D) (s : S) : putAll (i :: is) (e :: es) s = putAll is es (s.put i (.val e)) := rfl
@[simp] theorem sPar_s (is : List Nat) (f : FA) (s : S) : sPar is f s = (f s).stm fun es s => putAll is es s := rfl
theorem joinD_strs {z : Str} {ys : List Str} (h : (ys.map (·.length)).sum + ys.length * z.length ≤ 16777216) : joinD z (.list (ys.map PyData.str)) = some (.str (Txt.join z ys)) := by
  unfold joinD
  simp [items, h]
theorem splitD_str {z y : Str} (h : (y.length == 0) = false) (h2 : z.length + 2 ≤ sizeLine) : splitD z (.str y) = some ((Txt.split z y).map PyData.str) := by
  unfold splitD
  dsimp only
  rw [if_pos ⟨h, h2⟩]
theorem stD_list {k : Int} {ds : List D} (h : -(2 ^ 62) ≤ k ∧ k < 2 ^ 62) : stD (.int k) (.list ds) = some (enumFrom k ds) := by
  unfold stD
  dsimp only
  rw [if_pos h]
  rfl
@[simp] theorem atI_zero {α : Type} (x : α) (xs : List α) : atI (x :: xs) 0 = some x := atI_nn (xs := x :: xs) (i := 0) (by simp)
@[simp] theorem sCnt_s (s : S) : sCnt s = .ct s := rfl
@[simp] theorem sBrk_s (s : S) : sBrk s = .bk s := rfl
@[simp] theorem sPass_s (s : S) : sPass s = .nx s := rfl
theorem sum_le {α : Type} (f : α → Nat) (b : Nat) : ∀ l : List α, (∀ x ∈ l, f x ≤ b) → (l.map f).sum ≤ l.length * b
  | [], _ => by simp
  | x :: l, h => by
    have ih := sum_le f b l fun y hy => h y (List.mem_cons_of_mem _ hy)
    have := h x List.mem_cons_self
    rw [List.map_cons, List.sum_cons, List.length_cons, Nat.succ_mul]
    omega
theorem lenD_str {z : Str} (h : z.length ≤ sizeLine) : lenD (.str z) = some (z.length : Int) := by
  unfold lenD
  dsimp only
  rw [if_pos h]
theorem dIx_str {z : Str} {i : Int} (h : z.length ≤ sizeLine) : dIx (.str z) (.int i) = (atI z.cps.toList i).map fun c => .str ⟨#[c]⟩ := by
  unfold dIx
  dsimp only
  rw [if_pos h]
theorem dAddX_ss {a b : Str} (h : a.length + b.length ≤ sizeLine) : dAddX (.str a) (.str b) = some (.str (a ++ b)) := by
  have e : dAddX (.str a) (.str b) = (dAddS (.str a) (.str b)).or (dAddT (.str a) (.str b)) := rfl
  rw [e]
  unfold dAddS
  dsimp only
  rw [if_pos h]
  rfl
/-- short texts of signs below 128 -/
theorem Shp.str {n : Nat} {z : Str} (h : ∀ c ∈ z.cps.toList, c < 128) : Shp n (.str z) := by
  refine ⟨?_, Nat.zero_le _⟩
  show PyData.strOk z = true
  unfold PyData.strOk
  rw [Array.all_eq_true_iff_forall_mem]
  intro c hc
  have := h c (by simpa using hc)
  simp
  omega
theorem dEq_shp {n : Nat} {a b : D} (ha : Shp n a) (hb : Shp n b) (hn : n ≤ 64) : dEq a b = some (.bool (PyData.eqv a b)) := by
  unfold dEq; rw [if_pos ⟨ha.ok hn, hb.ok hn⟩]
theorem dNe_shp {n : Nat} {a b : D} (ha : Shp n a) (hb : Shp n b) (hn : n ≤ 64) : dNe a b = some (.bool (!PyData.eqv a b)) := by
  unfold dNe; rw [if_pos ⟨ha.ok hn, hb.ok hn⟩]
theorem dEq_str {a b : Str} (ha : ∀ c ∈ a.cps.toList, c < 128) (hb : ∀ c ∈ b.cps.toList, c < 128) : dEq (.str a) (.str b) = some (.bool (a == b)) := by
  rw [dEq_shp (n := 0) (Shp.str ha) (Shp.str hb) (by decide)]
  simp only [PyData.eqv]
theorem dNe_str {a b : Str} (ha : ∀ c ∈ a.cps.toList, c < 128) (hb : ∀ c ∈ b.cps.toList, c < 128) : dNe (.str a) (.str b) = some (.bool (!(a == b))) := by
  rw [dNe_shp (n := 0) (Shp.str ha) (Shp.str hb) (by decide)]
  simp only [PyData.eqv]
theorem blsD_mapf {α : Type} (l : List α) (f : α → Bool) : blsD (l.map fun x => .bool (f x)) = some (l.map f) := by
  induction l with
  | nil => rfl
  | cons x l ih => rw [List.map_cons, blsD, ih]; rfl
theorem dAll_mapf {α : Type} (l : List α) (f : α → Bool) : dAll (.list (l.map fun x => .bool (f x))) = some (.bool (l.all f)) := by
  unfold dAll
  dsimp only
  rw [blsD_mapf, Option.map_some, List.all_map]
  rfl
theorem dAny_mapf {α : Type} (l : List α) (f : α → Bool) : dAny (.list (l.map fun x => .bool (f x))) = some (.bool (l.any f)) := by
  unfold dAny
  dsimp only
  rw [blsD_mapf, Option.map_some, List.any_map]
  rfl
theorem dGt_nn (a b : Nat) : dGt (nD a) (nD b) = some (.bool (decide (b < a))) := by
  show some (PyData.bool (decide ((b : Int) < (a : Int)))) = _
  congr 2
  exact decide_eq_decide.mpr Int.ofNat_lt
theorem dLt_nn (a b : Nat) : dLt (nD a) (nD b) = some (.bool (decide (a < b))) := by
  show some (PyData.bool (decide ((a : Int) < (b : Int)))) = _
  congr 2
  exact decide_eq_decide.mpr Int.ofNat_lt
theorem dNe_nn (a b : Nat) : dNe (nD a) (nD b) = some (.bool (!decide (a = b))) := by
  unfold nD
  rw [dNe_ii]
  congr 3
  by_cases h : a = b
  · subst h; simp
  · have h' : ¬ (a : Int) = (b : Int) := by omega
    simp [h, h']
theorem draws_list {vs : List Nat} {j : Nat} {fe : FE} {b : Nat} (st : Int → S) (h : ∀ k d, 0 ≤ k → ∃ r, r < b ∧ ∃ s3, fe ((st k).put j (.val d)) = .ok (nD r) s3 ∧ kill vs s3 = st (k + 1)) :
    ∀ (xs : List D) (k : Int) (m : Nat), 0 ≤ k → m + xs.length ≤ sizeLine → ∃ (l : List Nat) (k' : Int), 0 ≤ k' ∧ l.length = xs.length ∧ (∀ x ∈ l, x < b) ∧ cmpD vs (gNm j) fYes fe xs m (st k) = .ok (l.map nD) (st k')
  | [], k, m, hk, _ => ⟨[], k, hk, rfl, (fun _ h => nomatch h), rfl⟩
  | d :: xs, k, m, hk, hm => by
    obtain ⟨r, hr, s3, e1, e2⟩ := h k d hk
    rw [List.length_cons] at hm
    obtain ⟨l, k', hk', hl, hb, e3⟩ := draws_list st h xs (k + 1) (m + 1) (by omega) (by omega)
    refine ⟨r :: l, k', hk', by simp [hl], fun x hx => ?_, ?_⟩
    · rcases List.mem_cons.mp hx with q | q
      · rw [q]; exact hr
      · exact hb x q
    · rw [cmpD]
      dsimp only [gNm]
      simp only [fYes_s, R.nox_ok, R.bind_ok, e1]
      rw [if_pos trivial, if_pos (by omega), e2, e3]
      rfl
theorem forD_ex {α : Type} {kl : List Nat} {tg : FG} {body : FO} (st : α → S) (I : Nat → α → Prop) : ∀ (xs : List D) (n : Nat),
    (∀ i a d, xs[i]? = some d → I (n + i) a → ∃ a' s1 s2, I (n + i + 1) a' ∧ tg d (st a) = some s1 ∧ (body s1 = .nx s2 ∨ body s1 = .ct s2) ∧ kill kl s2 = st a') →
    ∀ a, I n a → ∃ a', forD kl tg body xs (st a) = .nx (st a') ∧ I (n + xs.length) a'
  | [], n, _, a, h => ⟨a, rfl, h⟩
  | d :: xs, n, hb, a, h => by
    obtain ⟨a', s1, s2, i2, e1, e2, e3⟩ := hb 0 a d rfl h
    obtain ⟨a2, e4, i3⟩ := forD_ex st I xs (n + 1) (fun i a d hx hi => by
      have z := hb (i + 1) a d hx (by rw [show n + (i + 1) = n + 1 + i by omega]; exact hi)
      rw [show n + (i + 1) = n + 1 + i by omega] at z
      exact z) a' i2
    refine ⟨a2, ?_, by rw [List.length_cons, show n + (xs.length + 1) = n + 1 + xs.length by omega]; exact i3⟩
    rw [forD, e1]
    dsimp only
    rcases e2 with e2 | e2 <;> rw [e2] <;> (show forD kl tg body xs (kill kl s2) = _) <;> rw [e3] <;> exact e4
end PD
/-! PDw: more plain laws: objects of own classes, dicts -/
namespace PD
open PySem PySem.Spec L2
open PyProof.Rows hiding St
/-! ### fields, methods -/
def insE (cn : Str) (o : Option (Option Ent)) : Option (Bool × List (Str × D)) := match o with
  | some (some (.ins b n fs)) => if n = cn then some (b, fs) else none
  | _ => none
theorem insAt_s (cn : Str) (s : S) (i : Nat) : insAt cn s i = insE cn s.ρ[i]? := rfl
@[simp] theorem insE_ins (cn : Str) (b : Bool) (fs : List (Str × D)) : insE cn (some (some (.ins b cn fs))) = some (b, fs) := if_pos rfl
def fldE (o : Option (Bool × List (Str × D))) (f : Str) (s : S) : R D := match o with
  | some (_, fs) => R.of (fs.lookup f) s
  | none => .bad
@[simp] theorem fFld_s (cn : Str) (i : Nat) (f : Str) (s : S) : fFld cn i f s = fldE (insE cn s.ρ[i]?) f s := rfl
@[simp] theorem fldE_some (b : Bool) (fs : List (Str × D)) (f : Str) (s : S) : fldE (some (b, fs)) f s = R.of (fs.lookup f) s := rfl
def setFE (o : Option (Bool × List (Str × D))) (cn : Str) (i : Nat) (f : Str) (d : D) (s : S) : O := match o with
  | some (b, fs) => if fs.length < 1000 then .nx (s.put i (.ins b cn (putFD f d fs))) else .bad
  | none => .bad
@[simp] theorem sFldO_s (cn : Str) (i : Nat) (f : Str) (g : FE) (s : S) : sFldO cn i f g s = (g s).stm fun d s => setFE (insE cn s.ρ[i]?) cn i f d s := rfl
@[simp] theorem setFE_some (b : Bool) (fs : List (Str × D)) (cn : Str) (i : Nat) (f : Str) (d : D) (s : S) : setFE (some (b, fs)) cn i f d s = if fs.length < 1000 then .nx (s.put i (.ins b cn (putFD f d fs))) else .bad := rfl
def callME (o : Option (Bool × List (Str × D))) (cn : Str) (i n : Nat) (sem : SemM) (ds : List D) (s : S) : R D := match o with
  | some (b, fs) => if ds.length = n then methR cn i b sem fs ds s else .bad
  | none => .bad
def methE (o : Option (Bool × List (Str × D))) (cn : Str) (i : Nat) (m : Str) (n : Nat) (sem : SemM) (f : FA) (s : S) : R D := match o with
  | some (_, fs0) => if (fs0.lookup m).isNone = true then (f s).bind fun ds s => callME (insE cn s.ρ[i]?) cn i n sem ds s else .bad
  | none => .bad
@[simp] theorem fMeth_s (cn : Str) (i : Nat) (m : Str) (n : Nat) (sem : SemM) (f : FA) (s : S) : fMeth cn i m n sem f s = methE (insE cn s.ρ[i]?) cn i m n sem f s := rfl
@[simp] theorem methE_some (b : Bool) (fs0 : List (Str × D)) (cn : Str) (i : Nat) (m : Str) (n : Nat) (sem : SemM) (f : FA) (s : S) : methE (some (b, fs0)) cn i m n sem f s = if (fs0.lookup m).isNone = true then (f s).bind fun ds s => callME (insE cn s.ρ[i]?) cn i n sem ds s else .bad := rfl
@[simp] theorem callME_some (b : Bool) (fs : List (Str × D)) (cn : Str) (i n : Nat) (sem : SemM) (ds : List D) (s : S) : callME (some (b, fs)) cn i n sem ds s = if ds.length = n then methR cn i b sem fs ds s else .bad := rfl
def mR (cn : Str) (i : Nat) (b : Bool) (r : FRm) (s : S) : R D := match r with
  | .ret d fs' w => .ok d (({ s with w := w } : S).put i (.ins b cn fs'))
  | .exc k as fs' w => .exc k as (({ s with w := w } : S).put i (.ins b cn fs'))
  | .bad => .bad
@[simp] theorem methR_s (cn : Str) (i : Nat) (b : Bool) (sem : SemM) (fs : List (Str × D)) (ds : List D) (s : S) : methR cn i b sem fs ds s = mR cn i b (sem fs ds s.w) s := rfl
@[simp] theorem mR_ret (cn : Str) (i : Nat) (b : Bool) (d : D) (fs' : List (Str × D)) (w : Wst) (ρ : List (Option Ent)) (w0 : Wst) : mR cn i b (.ret d fs' w) ⟨ρ, w0⟩ = .ok d ⟨ρ.set i (some (.ins b cn fs')), w⟩ := rfl
@[simp] theorem mR_exc (cn : Str) (i : Nat) (b : Bool) (k : Nat) (as : List D) (fs' : List (Str × D)) (w : Wst) (ρ : List (Option Ent)) (w0 : Wst) : mR cn i b (.exc k as fs' w) ⟨ρ, w0⟩ = .exc k as ⟨ρ.set i (some (.ins b cn fs')), w⟩ := rfl
def nR (cn : Str) (r : FRm) (s : S) : R Ent := match r with
  | .ret .none fs' w => .ok (.ins false cn fs') { s with w := w }
  | .exc k as _ w => .exc k as { s with w := w }
  | _ => .bad
@[simp] theorem fNew_s (cn : Str) (n : Nat) (sem : SemM) (f : FA) (s : S) : fNew cn n sem f s = (f s).bind fun ds s => if ds.length = n then nR cn (sem [] ds s.w) s else .bad := rfl
@[simp] theorem nR_ret (cn : Str) (fs' : List (Str × D)) (w : Wst) (ρ : List (Option Ent)) (w0 : Wst) : nR cn (.ret .none fs' w) ⟨ρ, w0⟩ = .ok (.ins false cn fs') ⟨ρ, w⟩ := rfl
@[simp] theorem nR_exc (cn : Str) (k : Nat) (as : List D) (fs' : List (Str × D)) (w : Wst) (ρ : List (Option Ent)) (w0 : Wst) : nR cn (.exc k as fs' w) ⟨ρ, w0⟩ = .exc k as ⟨ρ, w⟩ := rfl
/-! what a method ends in -/
def omE (o : Option (Bool × List (Str × D))) (d : D) (w : Wst) : FRm := match o with
  | some (true, fs) => .ret d fs w
  | _ => .bad
@[simp] theorem omE_some (fs : List (Str × D)) (d : D) (w : Wst) : omE (some (true, fs)) d w = .ret d fs w := rfl
@[simp] theorem outM_rt (cn : Str) (d : D) (s : S) : outM cn (.rt d s) = omE (insE cn s.ρ[0]?) d s.w := rfl
@[simp] theorem outM_nx (cn : Str) (s : S) : outM cn (.nx s) = omE (insE cn s.ρ[0]?) .none s.w := rfl
def oxE (o : Option (Bool × List (Str × D))) (k : Nat) (as : List D) (w : Wst) : FRm := match o with
  | some (true, fs) => .exc k as fs w
  | _ => .bad
@[simp] theorem oxE_some (fs : List (Str × D)) (k : Nat) (as : List D) (w : Wst) : oxE (some (true, fs)) k as w = .exc k as fs w := rfl
@[simp] theorem outM_exc (cn : Str) (k : Nat) (as : List D) (s : S) : outM cn (.exc k as s) = oxE (insE cn s.ρ[0]?) k as s.w := rfl
/-! ### dicts -/
@[simp] theorem fIxX_s (i : Nat) (g : FE) (s : S) : fIxX i g s = thenR (lkE s.ρ[i]?) ((g s).bind fun b s => R.of ((lkE s.ρ[i]?).bind fun a => dIxX a b) s) := by
  unfold fIxX thenR
  rw [look_s]
  cases lkE s.ρ[i]? <;> rfl
@[simp] theorem dIxX_list (ds : List D) (b : D) : dIxX (.list ds) b = dIx (.list ds) b := rfl
@[simp] theorem dIxX_tuple (ds : List D) (b : D) : dIxX (.tuple ds) b = dIx (.tuple ds) b := rfl
@[simp] theorem dIxX_dicD (es : List (Key × D)) (b : D) : dIxX (dicD es) b = (kD b).bind fun k => lkD es k := by
  unfold dIxX dicD
  dsimp only
  rw [kesD_dic]
  rfl
@[simp] theorem kD_int (i : Int) : kD (.int i) = some (.inl i) := rfl
@[simp] theorem kD_nD (n : Nat) : kD (nD n) = some (.inl (n : Int)) := rfl
def dicE (o : Option (Option Ent)) (k : Option Key) (i : Nat) (d : D) (s : S) : O := match o, k with
  | some (some (.dic es)), some k => if es.length < sizeLine then .nx (s.put i (.dic (putKD es k d))) else .bad
  | _, _ => .bad
@[simp] theorem sSetD_s (i : Nat) (f g : FE) (s : S) : sSetD i f g s = (f s).stm fun d s => thenO (lkE s.ρ[i]?) ((g s).stm fun j s => dicE s.ρ[i]? (kD j) i d s) := by
  unfold sSetD thenO
  congr 1
@[simp] theorem dicE_some (es : List (Key × D)) (k : Key) (i : Nat) (d : D) (s : S) : dicE (some (some (.dic es))) (some k) i d s = if es.length < sizeLine then .nx (s.put i (.dic (putKD es k d))) else .bad := rfl
@[simp] theorem sSetN_s (i : Nat) (f : S → R Ent) (s : S) : sSetN i f s = (f s).stm fun e s => .nx (s.put i e) := rfl
def dictE (d : D) (s : S) : R Ent := match d with
  | .dict es => (R.of (kesD es) s).bind fun m s => .ok (.dic m) s
  | _ => .bad
@[simp] theorem fDict_s (f : FE) (s : S) : fDict f s = (f s).bind fun d s => dictE d s := rfl
@[simp] theorem dictE_dicD (es : List (Key × D)) (s : S) : dictE (dicD es) s = .ok (.dic es) s := by
  unfold dictE dicD
  dsimp only
  rw [kesD_dic]
  rfl
@[simp] theorem fPairs_nil (s : S) : fPairs [] s = .ok [] s := rfl
@[simp] theorem fPairs_cons (f g : FE) (r : List FPr) (s : S) : fPairs ((f, g) :: r) s = (f s).bind fun k s => (g s).bind fun d s => (R.of (kD k) s).bind fun k s => (fPairs r s).bind fun l s => .ok ((k, d) :: l) s := rfl
@[simp] theorem fDisp_s (l : List FPr) (s : S) : fDisp l s = (fPairs l s).bind fun m s => if m.length ≤ 15 then .ok (.dic (mergeKD [] m)) s else .bad := rfl
@[simp] theorem fDic0_s (s : S) : fDic0 s = .ok (.dic []) s := rfl
def updE (e : Ent) (o : Option (Option Ent)) (i : Nat) (s : S) : O := match e, o with
  | .dic more, some (some (.dic es)) => if es.length + more.length ≤ sizeLine then .nx (s.put i (.dic (mergeKD es more))) else .bad
  | _, _ => .bad
theorem sUpd_s (i : Nat) (f : S → R Ent) (s : S) : sUpd i f s = if isDic s i = true then (f s).stm fun e s => updE e s.ρ[i]? i s else .bad := rfl
@[simp] theorem updE_dic (more es : List (Key × D)) (i : Nat) (s : S) : updE (.dic more) (some (some (.dic es))) i s = if es.length + more.length ≤ sizeLine then .nx (s.put i (.dic (mergeKD es more))) else .bad := rfl
@[simp] theorem fDComp_s (vs : List Nat) (fi : FA) (tg : FG) (ft : FT) (fk fv : FE) (s : S) : fDComp vs fi tg ft fk fv s = (fi s).bind fun ds s => (dcmpD vs tg ft fk fv ds [] (kill vs s)).bind fun es s => .ok (.dic es) s := rfl
/-! ### try .. -/
def tryC (k i y : Nat) (g : List D → D) (b : Bool) (o : O) : O := match o with
  | .exc k' as s' => if k' = k ∧ i < s'.ρ.length ∧ i ≠ y then (match s'.ρ[y]? with
      | some (some (.val d)) => (match dNe (g as) d with
        | some (.bool true) => .rt (.bool b) (s'.drop i)
        | some (.bool false) => .nx (s'.drop i)
        | _ => .bad)
      | _ => .bad) else .bad
  | o => o
theorem sTryC_s (k i y : Nat) (fb : FO) (g : List D → D) (b : Bool) (s : S) : sTryC k i y fb g b s = tryC k i y g b (fb s) := rfl
end PD
/-! PD20: lambdas without parameters handed to a def that tries them: try: a() / except X as n: return (n.f,) / return (). -/
namespace PD
open PySem PySem.Spec L2
open PyProof.Rows hiding St
theorem Takes.len {X : Cx} {W : WX} (tk : Takes X W) : Takes X (fun cls d σ H => σ.length = X.N.length → W cls d σ H) := fun u s' ⟨a, B, sI, pins, σ, H, cls, d, e, I, r1, r2, r3, r4, r5, r6, q⟩ =>
  tk u s' ⟨a, B, sI, pins, σ, H, cls, d, e, I, r1, r2, r3, r4, r5, r6, q I.len⟩
/-- what the caller gets: (v,) of the exception's field, or () -/
def TTerr (C : Addr) (f : Str) : (XK → Hp → VK → Prop) → Hp → VK → Prop := fun tl H Q =>
  tl (fun cls d H' => cls = .ref C ∧ ∃ dd fl v, d = some dd ∧ H' dd = some (.xd fl) ∧ fl.lookup f = some v ∧ ∀ p, H' p = none → Q (.ref p) (upd H' p (.tup [v]))) H fun _ H' => ([] : List V).length ≤ sizeLine ∧ ∀ p, H' p = none → Q (.ref p) (upd H' p (.tup []))
theorem err_gives {X : Cx} {Ng fs : List Str} {x a e n f q : Str} {sg : Scope} {g C fI : Addr} {cdg : Value} {i k1 k2 : Nat} {p1 p2 p3 p4 p5 p6 p7 p8 p9 p10 p11 p12 : Pos} (T : XCls X.K X.mg e C fI fs) (hf : f ∈ fs) (hge : sg.names.lookup e = some .globalImplicit) (hde : (e == ("__debug__" : Str)) = false)
    (hN : Ng.Nodup) (hi : Ng[i]? = some n) (hln : sg.names.lookup n = some .local) (hkn : ∀ L : Addr, (envOfC x sg L g cdg).kindOf n = some .local) (hdn : (n == ("__debug__" : Str)) = false) (hcn : (n == ("__classdict__" : Str)) = false) (h0 : ∀ f : Addr, (L2.start Ng [V.ref f])[0]? = some (some (V.ref f)))
    (hsw : ∀ L : Addr, swapsWith (.Call (.Name a p1) [] [] p2) none p3.line (envOfC x sg L g cdg) = pure false) (hat : ∀ L : Addr, attributeBase (.Name n p5) f (envOfC x sg L g cdg) (eval (.Name n p5) (envOfC x sg L g cdg)) = eval (.Name n p5) (envOfC x sg L g cdg)) 
    (hst : ∀ L : Addr, starEach [.Attribute (.Name n p5) f p6] (envOfC x sg L g cdg) = (false, eval (.Attribute (.Name n p5) f p6) (envOfC x sg L g cdg)) :: starEach [] (envOfC x sg L g cdg)) :
    LamX.GivesTo X Ng x sg g cdg [.Try [.Expr (.Call (.Name a p1) [] [] p2) p3] [.ExceptHandler (some (.Name e p4)) (some n) [.Return (some (.Tuple [.Attribute (.Name n p5) f p6] k1 p7)) p8] p9] [] [] p10, .Return (some (.Tuple [] k2 p11)) p12] a q (TTerr C f) := by
  intro l c' s H Q tl act hc h
  have hgl : Gl (cxOf C8.CX0 X.prog X.w X.K X.mg X.base Ng x sg g cdg X.A X.stack s H C8.E0).nox e := hge
  refine ⟨_, pss_cons (ps_try_as (X := (cxOf C8.CX0 X.prog X.w X.K X.mg X.base Ng x sg g cdg X.A X.stack s H C8.E0).nox) (c := .ref C) (i := i)
      (tb := fun W D σ H => ∃ Ech : XK, (∀ cls d σ' H', Ech cls d H' → σ'.length = Ng.length → W cls d σ' H') ∧ σ[0]? = some (some (.ref l)) ∧ H c' = some (LamX.CodeO c' q) ∧ tl Ech H fun _ H' => D.nx σ H')
      (ts := fun a cls d => tRet (tTup (tCons (tXf a cls d C f (tVar i)) tNil))) (Wout := fun _ _ _ _ => False)
      rfl rfl hN hi (hkn _) ⟨hgl, hde, .inl T.gC⟩ LamX.takes0 (fun W pn xe tk _ => ?_)
      (fun a oe cls d pn hz hfi => pss_one (ps_ret (pe_tup (pa_cons (pe_xf (xfB_ok T.xf) (T.no f hf) hz hfi (pe_var hi (.inl hln) hdn hcn) (hat _)) pa_nil (hst _))))))
    (pss_one (ps_ret (pe_tup pa_nil))), ?_⟩
  · refine ⟨fun pins s' σ H' D I h' => ?_⟩
    obtain ⟨Ech, hW, h1, h2, h3⟩ := h'
    have hp := act _ pn xe Ech p1 p2 (Takes.len tk) hW
    have hq := pss_one (ps_expr hp (hsw _))
    exact hq.run pins s' σ H' D I ⟨h1, h2, h3⟩
  · refine ⟨fun cls d H' => cls = .ref C ∧ ∃ dd fl v, d = some dd ∧ H' dd = some (.xd fl) ∧ fl.lookup f = some v ∧ ∀ p, H' p = none → Q (.ref p) (upd H' p (.tup [v])), fun cls d σ' H' hE hlen => ?_, h0 l, hc, h⟩
    obtain ⟨rfl, dd, fl, v, rfl, e1, e2, e3⟩ := hE
    refine ⟨true, T.te, fun _ b hb => ?_, fun z => nomatch z⟩
    refine ⟨.ref b, List.getElem?_set_self (by rw [hlen]; exact (List.getElem?_eq_some_iff.mp hi).1), rfl, rfl, dd, fl, v, rfl, e1, e2, ?_, e3⟩
    show (1 : Nat) ≤ sizeLine
    decide
/-- the tables' heap: all else stays -/
theorem Rel.extN {K : PySem.W.Frag} {c : Act} {G H H1 : Hp} {σ : L2.St} {s : S} {P : Addr} {q : Str} (r : Rel K c G H σ s) (hT : c.T = [(P, q)]) (e : LamX.ExtN H H1) (t : LamX.Tabs [(P, q)] H1) : Rel K c G H1 σ s := by
  have hm : (P, q) ∈ c.T := by rw [hT]; exact List.mem_singleton.mpr rfl
  obtain ⟨_, _, _, nh⟩ := r.b.tb _ hm
  refine ⟨⟨fun a o ea => e a o (r.b.sub a o ea) fun ps z => r.b.ng a ps (by rw [ea, z]), e _ _ r.b.wl (fun _ z => nomatch z), r.b.wf, r.b.scr, r.b.g0, fun a o ea n => e a o (r.b.h0 a o ea n) fun ps z => nh a ps (by rw [ea, z]), r.b.n0, fun p hp => ⟨t p (by rw [← hT]; exact hp), (r.b.tb p hp).2⟩, r.b.ng⟩, r.len, fun i en q' => ?_, r.sep⟩
  obtain ⟨v, hv, he⟩ := r.slot i en q'
  exact ⟨v, hv, he.conv (Same.refl _) rfl rfl rfl fun bb o ⟨p', ho, ev, h1, h2, h3, h4, h5⟩ => ⟨p', ho, ev, h1, h2, h3, e p' ho h4 (fun ps z => by have := h5.pl; rw [z] at this; cases this), h5⟩⟩
/-- x(lambda: e), x as in err_gives -/
def fErr (P : Addr) (q : Str) (k : Nat) (f : FE) : FE := fun s => match s.ρ[(0 : Nat)]? with
  | some (some (.tab P' q')) => if P' = P ∧ q' = q then (match f s with
    | .ok _ s' => .ok (.tuple []) s'
    | .exc k' as s' => if k' = k then .ok (.tuple [fldD 0 as]) s' else .bad
    | .bad => .bad) else .bad
  | _ => .bad
theorem err_read {X : Cx} {ex : ExT} {W : WX} {P C : Addr} {q fn : Str} {fs : List Str} {k : Nat} {f : FE} (hex : ex k = some (C, fs)) (hfn : fs[0]? = some fn) {σ : L2.St} {H : Hp} {Q : VK} (h : tE X.K ex W (fErr P q k f) σ H Q) :
    LamX.tLam [(P, q)] (TTerr C fn) (fun E => tE X.K ex (fun cls d _ H => E cls d H) f) σ H Q := by
  obtain ⟨c, G, s, r, h⟩ := h
  unfold fErr at h
  split at h
  · rename_i P' q' h0
    split at h
    case isFalse => exact h.elim
    case isTrue hpq =>
      obtain ⟨rfl, rfl⟩ := hpq
      obtain ⟨_, _, hT⟩ := r.slot 0 _ h0
      have hT : c.T = [(P', q')] := hT
      refine ⟨fun p hp => (r.b.tb p (by rw [hT]; exact hp)).1, fun H1 eN T1 => ?_⟩
      refine ⟨c, G, s, r.extN hT eN T1, ?_⟩
      cases z : f s with
      | bad => rw [z] at h; exact h.elim
      | ok d s' =>
        rw [z] at h
        intro G2 H2 e2 r2 v hv
        refine ⟨Nat.zero_le _, fun p hp => ?_⟩
        obtain ⟨q1, q2, q3⟩ := r2.newTup hp .nil
        exact h _ _ (e2.trans q1) q2 _ q3
      | exc k' as s' =>
        rw [z] at h
        dsimp only at h
        split at h
        case isFalse => exact h.elim
        case isTrue hk =>
          subst hk
          intro cls dx G2 H2 e2 r2 E
          obtain ⟨C', names, d, fl, vs, e1, ec, ed, eh, e5, e6⟩ := E
          rw [hex] at e1
          cases e1
          have q5 : (fs.map fun n => fl.lookup n)[0]? = (vs.map some)[0]? := by rw [e5]
          rw [List.getElem?_map, hfn, List.getElem?_map] at q5
          cases hv : vs[0]? with
          | none => rw [hv] at q5; cases q5
          | some v =>
            rw [hv] at q5
            have q6 : fl.lookup fn = some v := by simpa using q5
            obtain ⟨d2, h1, h2⟩ := e6.getV hv
            have h3 : Dp X.K G2 v (fldD 0 as) := by
              unfold fldD
              rw [h1]
              exact h2
            refine ⟨ec, d, fl, v, ed, eh, q6, fun p hp => ?_⟩
            obtain ⟨q1, q2, q3⟩ := r2.newTup hp (.cons h3 .nil)
            exact h _ _ (e2.trans q1) q2 _ q3
  · exact h.elim
def lamQ : Str := ("law" : Str) ++ ".<locals>." ++ "<lambda>"
/-- x(lambda: e): x a def as in err_gives, st its text -/
theorem eErr {X : Cx} {ex : ExT} {W : WX} {tb c g C fI : Addr} {fd : FuncData} {st : Stmt} {Ng fs : List Str} {x a e n fn q : Str} {k j i k1 k2 : Nat} {f : FE} {params : Arguments} {body : Expr} {scope : Scope} {p lpos pos p1 p2 p3 p4 p5 p6 p7 p8 p9 p10 p11 p12 : Pos}
    (F : Fun X.K x x st g fd) (hm : X.mg x = some (.ref g)) (hb : L2.Binds X.K fd [a] []) (Sg : FnScope Ng [a] (defScope st)) (T : XCls X.K X.mg e C fI fs) (hex : ex k = some (C, fs)) (TB : LamX.TabB X.base X.mg c tb) (hcode : X.env.code = .ref c) (hr : Room (j + 2) X.A)
    (hst : defBody st = [.Try [.Expr (.Call (.Name a p1) [] [] p2) p3] [.ExceptHandler (some (.Name e p4)) (some n) [.Return (some (.Tuple [.Attribute (.Name n p5) fn p6] k1 p7)) p8] p9] [] [] p10, .Return (some (.Tuple [] k2 p11)) p12])
    (L : LamX.LamS X.env.scope scope)
    (hbody : ∀ (A : Around) (outer : List Env) (s : Shared) (H : Hp) (E : XK) (l c' : Addr), Room j (A.deeper (LamX.lamEnv X scope s.heap.objs.size l c')) → PE (LamX.lamCx X A outer s H E scope l c') body (tE X.K ex (fun cls d _ H => E cls d H) f))
    (hi : Ng[i]? = some n) (hg : Gl X x := by rfl) (hfn : fs[0]? = some fn := by rfl) (hNg : Ng[0]? = some a := by rfl) (hva : Vis (defScope st) a := by first | exact Or.inl rfl | exact Or.inr (Or.inl rfl) | exact Or.inr (Or.inr rfl))
    (hge : (defScope st).names.lookup e = some .globalImplicit := by rfl) (hln : (defScope st).names.lookup n = some .local := by rfl) (hkn : ∀ (L : Addr) (cdg : Value), (envOfC x (defScope st) L g cdg).kindOf n = some .local := by intro _ _; rfl)
    (hsw : ∀ (L : Addr) (cdg : Value), swapsWith (.Call (.Name a p1) [] [] p2) none p3.line (envOfC x (defScope st) L g cdg) = pure false := by intro _ _; rfl)
    (hat : ∀ (L : Addr) (cdg : Value), attributeBase (.Name n p5) fn (envOfC x (defScope st) L g cdg) (eval (.Name n p5) (envOfC x (defScope st) L g cdg)) = eval (.Name n p5) (envOfC x (defScope st) L g cdg) := by intro _ _; rfl)
    (hsa : ∀ (L : Addr) (cdg : Value), starEach [.Attribute (.Name n p5) fn p6] (envOfC x (defScope st) L g cdg) = (false, eval (.Attribute (.Name n p5) fn p6) (envOfC x (defScope st) L g cdg)) :: starEach [] (envOfC x (defScope st) L g cdg) := by intro _ _; rfl)
    (h0 : ∀ l : Addr, (L2.start Ng [V.ref l])[0]? = some (some (V.ref l)) := by intro _; rfl)
    (hq : q = X.env.qual ++ "<lambda>" := by rfl) (hdef : defaultsOf params X.env = ([], []) := by rfl) (hbind : ∀ (q : Str) (cl : List (Str × Addr)) (pm cv ctv : Value), bindArgs (PySem.W.kla_fn "<lambda>" q params body scope cl pm cv ctv) ⟨[], []⟩ = pure [] := by intro _ _ _ _ _; rfl)
    (hde : (e == ("__debug__" : Str)) = false := by decide) (hdn : (n == ("__debug__" : Str)) = false := by decide) (hcn : (n == ("__classdict__" : Str)) = false := by decide) (hdb : (x == ("__debug__" : Str)) = false := by decide) (hd : (a == ("__debug__" : Str)) = false := by decide) (hcd : (a == ("__classdict__" : Str)) = false := by decide) :
    PE X (.Call (.Name x p) [.Lambda params body scope lpos] [] pos) (tE X.K ex W (fErr tb q k f)) := by
  obtain ⟨oc, od, kV, doc, pm, an, cdv, ct, osl, rfl, lk, hcg⟩ := F.ex
  refine PE.imp (LamX.pe_lamcall (T := [(tb, q)]) (TT := TTerr C fn) (t := fun E => tE X.K ex (fun cls d _ H => E cls d H) f) (k := j) hg hm F.kp lk hcg hb Sg hNg hva ?_ TB hcode (by rw [hq]; exact List.mem_singleton.mpr rfl) (fun p hp _ => by rw [List.mem_singleton.mp hp]; exact hq) hr L hdef hbind hbody hdb hd hcd) fun σ H Q h => err_read hex hfn h
  rw [hst]
  exact err_gives T (List.mem_of_getElem? hfn) hge hde Sg.nd hi hln (fun L => hkn L _) hdn hcn h0 (fun L => hsw L _) (fun L => hat L _) (fun L => hsa L _)
/-! ### the law with a table -/
def spLawT (K : PySem.W.Frag) (tb : Addr) : Sp := fun vs H Q _ => ∃ (a : Addr) (ns : List Int), vs = [.ref a] ∧ SqL K H a (ns.map V.int) ∧ ns.length ≤ 63 ∧ H tb = some (.tbl #[]) ∧ ∀ H', Q (.bl true) H'
def lawST (N : Nat) (tb : Addr) (ns : List Int) : S := ⟨some (.tab tb lamQ) :: some .hdl :: List.replicate (N - 2) none, ⟨ns, 0⟩⟩
section
variable {P : Program} {w : World} {K : PySem.W.Frag} {mg : Str → Option Value} {base : Heap} {ex : ExT}
theorem lawDT {x : Str} {st st1 : Stmt} {rest : List Stmt} {f c tb : Addr} {fd : FuncData} {N : List Str} {k : Nat} {fb : FO} (F : Fun K "law" "law" st f fd) (hc : fd.code = .ref c) (Sc : FnScope N [x] (defScope st)) (hN : 2 ≤ N.length) (hbody : defBody st = st1 :: rest)
    (b1 : ∀ (A : Around) (outer : List Env) (s : Shared) (H : Hp) (E : XK), PS (cxOf (L2.CX P w) P w K mg base N "law" (defScope st) f (.ref c) A outer s H E) st1 (tMkD K))
    (body : ∀ (A : Around) (outer : List Env) (s : Shared) (H : Hp) (E : XK), Room k (A.deeper (envOfC "law" (defScope st) s.heap.objs.size f (.ref c))) →
      PSs (cxOf (L2.CX P w) P w K mg base N "law" (defScope st) f (.ref c) A outer s H E) rest (tS K ex (fun cls d _ H => E cls d H) fb))
    (good : ∀ ns : List Int, ns.length ≤ 63 → ∃ s', fb (lawST N.length tb ns) = .rt (.bool true) s') : FnOk P w K mg base (L2.CX P w) (k + 1) f fd [x] (spLawT K tb) := by
  obtain ⟨oc, od, kV, doc, pm, an, cdv, ct, osl, rfl, lk, hcd⟩ := F.ex
  have hc : cdv = .ref c := hc
  subst hc
  refine fn_of lk hcd Sc (fun vs H Q E hh => ?_) fun A outer s H vs Q E hr hh => ⟨_, by rw [hbody]; exact pss_cons (b1 A outer s H E) (body A outer s H E hr), ?_⟩
  · obtain ⟨a, ns, rfl, _⟩ := hh
    rfl
  · obtain ⟨a, ns, rfl, hS, hlen, hT, q⟩ := hh
    have e0 : L2.start N [V.ref a] = some (V.ref a) :: List.replicate (N.length - 1) none := rfl
    rw [e0]
    obtain ⟨m, hm⟩ : ∃ m, N.length = m + 2 := ⟨N.length - 2, by omega⟩
    rw [show N.length - 1 = m + 1 by omega, List.replicate_succ]
    refine ⟨.ref a, rfl, 63, rfl, a, ns.map V.int, rfl, hS, fun p1 hp1 => ?_⟩
    rw [cut63 hlen]
    refine ⟨by show 3 ≤ sizeLine; decide, fun p2 hp2 => ?_⟩
    have ne : p2 ≠ p1 := fun z => by
      rw [z, upd_same] at hp2
      cases hp2
    have nt : tb ≠ p1 := fun z => by rw [z, hp1] at hT; cases hT
    obtain ⟨s', hg⟩ := good ns hlen
    rw [hm] at hg
    refine ⟨⟨p2, p1, upd (fun _ => none) p1 (.lst (ns.map V.int)), fun _ => none, 0, [(tb, lamQ)]⟩, upd (fun _ => none) p1 (.lst (ns.map V.int)), lawST (m + 2) tb ns, ⟨⟨?_, upd_same, ?_, SqL.of upd_same, Same.refl _, fun _ _ e => (nomatch e), fun _ _ e => (nomatch e), fun q hq => ?_, fun b ps z => ?_⟩, ?_, ?_, ?_⟩, ?_⟩
    · intro b o e
      by_cases hb : b = p1
      · subst hb
        rw [upd_same] at e
        rw [upd_ne (Ne.symm ne), upd_same]
        exact e
      · rw [upd_ne hb] at e
        cases e
    · show upd (fun _ => none) p1 _ p2 = none
      rw [upd_ne ne]
    · have hq := List.mem_singleton.mp hq
      subst hq
      exact ⟨TabS.new (TabS.new (LamX.TabS.nil hT) hp1) hp2, by rw [upd_ne nt], rfl, fun _ _ z => (nomatch z)⟩
    · by_cases hb : b = p1
      · rw [hb, upd_same] at z
        cases z
      · rw [upd_ne hb] at z
        cases z
    · simp [lawST]
    · intro i e h
      match i, h with
      | 0, h =>
        have h : Ent.tab tb lamQ = e := by simpa [lawST] using h
        subst h
        exact ⟨.ref a, rfl, rfl⟩
      | 1, h =>
        have h : Ent.hdl = e := by simpa [lawST] using h
        subst h
        exact ⟨.ref p2, rfl, rfl⟩
      | i + 2, h =>
        have h : (List.replicate m (none : Option Ent))[i]? = some (some e) := h
        have := List.mem_of_getElem? h
        rw [List.mem_replicate] at this
        cases this.2
    · intro i j v n ⟨e, h, bb⟩
      match i, h with
      | 0, h =>
        have h : Ent.tab tb lamQ = e := by simpa [lawST] using h
        rw [← h] at bb
        cases bb
      | 1, h =>
        have h : Ent.hdl = e := by simpa [lawST] using h
        rw [← h] at bb
        cases bb
      | i + 2, h =>
        have h : (List.replicate m (none : Option Ent))[i]? = some (some e) := h
        have := List.mem_of_getElem? h
        rw [List.mem_replicate] at this
        cases this.2
    · rw [hg]
      intro v σ' G' H' _ _ hv
      cases hv
      exact q H'
end
/-- a new object's making that only fails -/
def fNoN (f : S → R Ent) : FE := fun s => match f s with
  | .exc k as s' => .exc k as s'
  | _ => .bad
theorem eNoN {X : Cx} {ex : ExT} {W : WX} {e : Expr} {f : S → R Ent} (h : PE X e (tN X.K ex W f)) : PE X e (tE X.K ex W (fNoN f)) := PE.imp h fun σ H Q ⟨c, G, s, r, q⟩ => ⟨c, G, s, r, by
  unfold fNoN at q
  cases z : f s with
  | ok d s' => rw [z] at q; exact q.elim
  | bad => rw [z] at q; exact q.elim
  | exc k as s' => rw [z] at q; exact q⟩
/-! ### a, b = e1, e2 by way of a tuple, some of them new objects -/
theorem EntsOk.alloc {K : PySem.W.Frag} {c : Act} {G H : Hp} {σ : L2.St} {s : S} {p : Addr} {o : HO} (hp : H p = none) : ∀ {vs : List V} {es : List Ent}, EntsOk K c G H σ s vs es → EntsOk K c G (upd H p o) σ s vs es
  | [], [], _ => trivial
  | [], _ :: _, h => h.elim
  | _ :: _, [], h => h.elim
  | _ :: _, _ :: _, ⟨h1, h2, h3⟩ => ⟨h1.up (Same.refl _) fun q ho e1 e2 _ _ _ => ⟨(upd_ne (ne_of_none e1 hp)).trans e1, e2⟩, h2, EntsOk.alloc hp h3⟩
theorem kMixT2 {X : Cx} {ex : ExT} {W : WX} {i0 i1 : Nat} {a b : Expr} {pos : Pos} {x y : Str} {px py pt : Pos} {kt k2 pt2} {fa : S → R (List Ent)} (hN : X.N.Nodup) (ha : PA X [a, b] (tX X.K ex W fa)) (hc : X.calm = true := by rfl) (hi : X.N[i0]? = some x := by rfl) (hj : X.N[i1]? = some y := by rfl)
    (hx : Loc X.env.scope x := by first | exact Or.inl rfl | exact Or.inr rfl) (hy : Loc X.env.scope y := by first | exact Or.inl rfl | exact Or.inr rfl) (hfx : X.fn x = true ∨ X.env.scope.names.lookup x = some .local := by first | exact .inl rfl | exact .inr rfl) (hfy : X.fn y = true ∨ X.env.scope.names.lookup y = some .local := by first | exact .inl rfl | exact .inr rfl)
    (hs : swapsWithSole [.Tuple [.Name x px, .Name y py] kt pt] (.Tuple [a, b] k2 pt2) pos.line X.env = pure false := by rfl) (hw : swappedStores [.Tuple [.Name x px, .Name y py] kt pt] (.Tuple [a, b] k2 pt2) X.env = pure none := by rfl)
    (h1 : (assignEach [.Tuple [.Name x px, .Name y py] kt pt] X.env).map (·.2) = [assign (.Tuple [.Name x px, .Name y py] kt pt) X.env] := by rfl)
    (g1 : (assignEach [.Name x px, .Name y py] X.env).map (·.2) = assign (.Name x px) X.env :: (assignEach [.Name y py] X.env).map (·.2) := by rfl) (g2 : (assignEach [.Name y py] X.env).map (·.2) = assign (.Name y py) X.env :: (assignEach [] X.env).map (·.2) := by rfl)
    (hn : (assignEach [.Name x px, .Name y py] X.env).length = 2 := by rfl) (hst : (assignEach [.Name x px, .Name y py] X.env).findIdx? (·.1) = none := by rfl) :
    PS X (.Assign [.Tuple [.Name x px, .Name y py] kt pt] (.Tuple [a, b] k2 pt2) pos) (tS X.K ex W (sMix [i0, i1] fa)) :=
  PS.imp (ps_asg (pe_tup ha) (pg_tup hc (pgs_cons (pg_name hN hi hx hfx) (pgs_cons (pg_name hN hj hy hfy) pgs_nil g2) g1) hn hst) hs hw h1) fun En σ H ⟨c, G, s, r, h⟩ => by
    refine ⟨c, G, s, r, h.fromR fun es s1 G1 H1 e1 r1 h1 vs hv => ?_⟩
    have hl := hv.len
    match es, h1 with
    | [d1, d2], h1 =>
      match vs, hl, hv with
      | [v1, v2], _, hv =>
        refine ⟨show (2 : Nat) ≤ sizeLine by decide, fun p hp => ⟨p, [v1, v2], rfl, SqT.of upd_same, rfl, v1, [v2], rfl, v2, [], rfl, rfl, ?_⟩⟩
        obtain ⟨r2, hv2⟩ := (EntsOk.alloc (o := .tup [v1, v2]) hp hv).put (i := i0) (r1.allocOwn hp)
        obtain ⟨r3, _⟩ := hv2.put (i := i1) r2
        exact h1 _ G1 _ (Same.refl _) r3
    | [], h1 => exact h1.elim
    | [_], h1 => exact h1.elim
    | _ :: _ :: _ :: _, h1 => exact h1.elim
end PD
/-! PD21: name[i] += e, pop, extend, dicts: in, pop, sorted; n.bit_length(). -/
namespace PD
open PySem PySem.Spec L2
open PyProof.Rows hiding St
/-! ### name[i] += e, a list of its own -/
def rGetN (K : PySem.W.Frag) : V → V → Hp → VK → Prop := fun x y H Q => ∃ p xs i v, x = .ref p ∧ y = .int i ∧ SqL K H p xs ∧ 0 ≤ i ∧ xs[i.toNat]? = some v ∧ Q v H
theorem get_listN {X : Cx} : PGet X (rGetN X.K) := by
  intro pins s σ H o i ov iv Q I ro ri h
  obtain ⟨p, xs, k, z, rfl, rfl, hq, hk, he, q⟩ := h
  cases ro
  obtain ⟨t, rfl⟩ := ri
  obtain ⟨its, r, pl, hz⟩ := I.list hq
  obtain ⟨w, ew, rw'⟩ := r.get he
  have hl := r.length
  have hlt : k.toNat < xs.length := (List.getElem?_eq_some_iff.mp he).1
  exact wpAny_getItem_list pl.isList hk (by have := line63; omega) (by simpa using ew) ⟨z, H, I, rw', q⟩
def sAugIx (i : Nat) (g f : FE) : FO := fun s => if (look s i).isSome = true then (g s).stm fun j s => match s.ρ[i]?, j with
    | some (some (.own ds)), .int k => if 0 ≤ k then (match ds[k.toNat]? with
      | some (.int a) => (f s).stm fun y s => (match s.ρ[i]?, y with
        | some (some (.own ds')), .int b => if k.toNat < ds'.length then .nx (s.put i (.own (ds'.set k.toNat (.int (a + b))))) else .bad
        | _, _ => .bad)
      | _ => .bad) else .bad
    | _, _ => .bad
  else .bad
theorem kAugIx (i : Nat) {X : Cx} {ex : ExT} {W : WX} {x : Str} {ix e : Expr} {f g : FE} {p spos pos : Pos} (hg : PE X ix (tE X.K ex W g)) (he : PE X e (tE X.K ex W f)) (hN : X.N[i]? = some x := by rfl) (hv : Vis X.env.scope x := by first | exact Or.inl rfl | exact Or.inr (Or.inl rfl) | exact Or.inr (Or.inr rfl))
    (hd : (x == ("__debug__" : Str)) = false := by decide) (hcd : (x == ("__classdict__" : Str)) = false := by decide)
    (ha : ∀ ov iv new, augStore ix ov iv new = (do holding [new, ov, iv] (setItem ov iv new); release [new, ov, iv] []; pure .next) := by intros; rfl) :
    PS X (.AugAssign (.Subscript (.Name x p) ix spos) .Add e pos) (tS X.K ex W (sAugIx i g f)) :=
  PS.imp (ps_augS (pe_var hN hv hd hcd) hg get_listN he ip_add set_list ha) fun En σ H ⟨c, G, s, r, h⟩ => by
    have h : PostO X.K ex W c G En (if (look s i).isSome = true then (g s).stm fun j s => match s.ρ[i]?, j with
        | some (some (.own ds)), .int k => if 0 ≤ k then (match ds[k.toNat]? with
          | some (.int a) => (f s).stm fun y s => (match s.ρ[i]?, y with
            | some (some (.own ds')), .int b => if k.toNat < ds'.length then .nx (s.put i (.own (ds'.set k.toNat (.int (a + b))))) else .bad
            | _, _ => .bad)
          | _ => .bad) else .bad
        | _, _ => .bad
      else .bad) := h
    by_cases hl : (look s i).isSome = true
    · rw [if_pos hl] at h
      obtain ⟨d0, hd0⟩ := Option.isSome_iff_exists.mp hl
      obtain ⟨u, hu, _⟩ := r.look hd0
      refine ⟨u, hu, soE r h fun j s1 G1 H1 v1 e1 r1 hv1 h1 => ?_⟩
      split at h1
      · rename_i ds k hds
        cases hv1
        obtain ⟨q, vs, eq, hdd, r3, b3⟩ := r1.takeOwn hds
        rw [hu] at eq
        cases eq
        by_cases hk : 0 ≤ k
        · rw [if_pos hk] at h1
          split at h1
          · rename_i a ha'
            obtain ⟨w, hw, hwd⟩ := hdd.get ha'
            cases hwd
            refine ⟨q, vs, k, .int a, rfl, rfl, SqL.of b3.at_, hk, hw, ?_⟩
            refine soE r1 h1 fun y s2 G2 H2 v2 e2 r2 hv2 h2 => ?_
            split at h2
            · rename_i ds' b hds'
              cases hv2
              obtain ⟨q', vs', eq', hdd', r4, b4⟩ := r2.takeOwn hds'
              rw [hu] at eq'
              cases eq'
              by_cases hlt : k.toNat < ds'.length
              · rw [if_pos hlt] at h2
                refine ⟨a, b, rfl, rfl, q, vs', k, k.toNat, rfl, rfl, b4.at_, ?_, ?_⟩
                · unfold ixN
                  rw [if_pos hk, if_pos (by rw [hdd'.len]; omega)]
                · exact h2 σ G2 _ (Same.refl _) (r2.setOwn hds' hu b4.at_ (hdd'.setI (.int (a + b)) k.toNat))
              · rw [if_neg hlt] at h2
                exact h2.elim
            · exact h2.elim
          · exact h1.elim
        · rw [if_neg hk] at h1
          exact h1.elim
      · exact h1.elim
    · rw [if_neg hl] at h
      exact h.elim
/-! ### dicts asked -/
def ikeys : List (Key × D) → Option (List Int)
  | [] => some []
  | (.inl i, _) :: r => (ikeys r).map fun l => i :: l
  | _ :: _ => none
theorem ikeys_eq : ∀ {m : List (Key × D)} {ns : List Int}, ikeys m = some ns → m.map (·.1) = ns.map Sum.inl
  | [], ns, h => by cases h; rfl
  | (.inl i, d) :: r, ns, h => by
    unfold ikeys at h
    cases z : ikeys r with
    | none => rw [z] at h; cases h
    | some l =>
      rw [z] at h
      cases h
      rw [List.map_cons, List.map_cons, ikeys_eq z]
  | (.inr _, _) :: _, ns, h => by cases h
theorem PrAll.keys {K : PySem.W.Frag} {G : Hp} {l : List (Key × V)} {m : List (Key × D)} (h : PrAll K G l m) : l.map (·.1) = m.map (·.1) := by
  induction h with
  | nil => rfl
  | cons _ _ ih => rw [List.map_cons, List.map_cons, ih]
/-- sorted(name), a dict of ints -/
def fSortD (i : Nat) : FA := fun s => match look s i with
  | some (.dict es) => R.of ((kesD es).bind fun m => (ikeys m).bind fun ns => if ns.length < 64 then some ((sortI ns).map PyData.int) else none) s
  | _ => .bad
section
variable {X : Cx} {ex : ExT} {W : WX}
theorem oSortD (i : Nat) {x : Str} {p px pos : Pos} (hc : X.calm = true) (hm : X.mg "sorted" = none) (hN : X.N[i]? = some x := by rfl) (hv : Vis X.env.scope x := by first | exact Or.inl rfl | exact Or.inr (Or.inl rfl) | exact Or.inr (Or.inr rfl))
    (hd : (x == ("__debug__" : Str)) = false := by decide) (hcd : (x == ("__classdict__" : Str)) = false := by decide) (hg : Gl X "sorted" := by rfl) (hs : starEach [.Name x px] X.env = (false, eval (.Name x px) X.env) :: starEach [] X.env := by rfl) (hpl : (backTo pos (starEach [] X.env)).any (·.1) = false := by rfl) :
    PE X (.Call (.Name "sorted" p) [.Name x px] [] pos) (tO X.K ex W (fSortD i)) :=
  PE.imp (pe_callB (call_sortedDI hc) hg hm (by decide +kernel) (pa_cons (pe_var hN hv hd hcd) pa_nil hs) (he := hs) (hpl := hpl)) fun σ H Q ⟨c, G, s, r, q⟩ => by
    unfold fSortD at q
    split at q
    · rename_i es z
      obtain ⟨p', kvs, m, q1, q2, q3, q4⟩ := r.lookD z
      rw [q3, Option.bind_some] at q
      cases zk : ikeys m with
      | none => rw [zk] at q; exact q.elim
      | some ns =>
        rw [zk, Option.bind_some] at q
        by_cases hl : ns.length < 64
        · rw [if_pos hl] at q
          refine ⟨_, q1, p', kvs, ns, rfl, .inl q2, by rw [q4.keys, ikeys_eq zk], hl, fun ns' l pm so hl => ?_⟩
          have e : ns' = sortI ns := sorted_unique (pm.trans (sortI_perm ns).symm) so (sortI_sorted ns)
          subst e
          obtain ⟨r2, hf⟩ := r.newOwn hl (DpAll.ints _)
          exact q.val' r2 _ hf
        · rw [if_neg hl] at q
          exact q.elim
    · exact q.elim
/-- e in name, e not in name, the name a dict -/
def fDin (neg : Bool) (i : Nat) (f : FE) : FE := fun s => (f s).bind fun d s => match look s i, kD d with
  | some (.dict es), some k => R.of ((kesD es).map fun m => .bool (neg ^^ (lkD m k).isSome)) s
  | _, _ => .bad
theorem din_read {neg : Bool} {i : Nat} {f : FE} {σ : L2.St} {H : Hp} {Q : VK} (h : tE X.K ex W (fDin neg i f) σ H Q) : tE X.K ex W f σ H fun y H1 => tVar i σ H1 fun x H2 => ∃ a o, x = .ref a ∧ DGet H2 a y o ∧ Q (.bl (neg ^^ o.isSome)) H2 := by
  obtain ⟨c, G, s, r, q⟩ := h
  refine inE r q fun d s1 G1 H1 v e1 r1 hv q1 => ?_
  split at q1
  · rename_i es k z kz
    obtain ⟨p', kvs, m, q2, q3, q4, q5⟩ := r1.lookD z
    rw [q4] at q1
    have hku := kV_of hv kz
    subst hku
    refine ⟨_, q2, p', valV kvs k, rfl, .inl ⟨kvs, k, .inl q3, rfl, rfl⟩, ?_⟩
    have e : (valV kvs k).isSome = (lkD m k).isSome := by
      cases y : lkD m k with
      | none =>
        rw [(q5.find k).2 y]
        rfl
      | some dd =>
        obtain ⟨w, hw, _⟩ := (q5.find k).1 dd y
        rw [hw]
        rfl
    rw [e]
    exact q1.val r1 (.bl _)
  · exact q1.elim
theorem tDinE (i : Nat) {k : Nat} {x : Str} {e : Expr} {f : FE} {px pos : Pos} (hr : Room k X.A) (he : PE X e (tE X.K ex W f)) (hN : X.N[i]? = some x := by rfl) (hv : Vis X.env.scope x := by first | exact Or.inl rfl | exact Or.inr (Or.inl rfl) | exact Or.inr (Or.inr rfl))
    (hd : (x == ("__debug__" : Str)) = false := by decide) (hcd : (x == ("__classdict__" : Str)) = false := by decide) (hb : behindInMarks .In (.Name x px) = false := by rfl) : PT X (.Compare e [.In] [.Name x px] pos) (tT X.K ex W (tVal (fDin false i f))) :=
  PT.imp (pt_cmp (pc_din (hu1 hr) he (pe_var hN hv hd hcd)) hb) fun σ H Q h => by
    have h := din_read (toTest h)
    simp only [Bool.false_xor] at h
    exact h
theorem tDninE (i : Nat) {k : Nat} {x : Str} {e : Expr} {f : FE} {px pos : Pos} (hr : Room k X.A) (he : PE X e (tE X.K ex W f)) (hN : X.N[i]? = some x := by rfl) (hv : Vis X.env.scope x := by first | exact Or.inl rfl | exact Or.inr (Or.inl rfl) | exact Or.inr (Or.inr rfl))
    (hd : (x == ("__debug__" : Str)) = false := by decide) (hcd : (x == ("__classdict__" : Str)) = false := by decide) (hb : behindInMarks .NotIn (.Name x px) = false := by rfl) : PT X (.Compare e [.NotIn] [.Name x px] pos) (tT X.K ex W (tVal (fDin true i f))) :=
  PT.imp (pt_cmp (pc_dnotin (hu1 hr) he (pe_var hN hv hd hcd)) hb) fun σ H Q h => by
    have h := din_read (toTest h)
    simp only [Bool.true_xor] at h
    exact h
end
/-! ### dicts changed -/
def dropKD (es : List (Key × D)) (k : Key) : List (Key × D) := es.filter fun p => decide (p.1 ≠ k)
theorem PrAll.drop {K : PySem.W.Frag} {G : Hp} {l : List (Key × V)} {m : List (Key × D)} (h : PrAll K G l m) (k : Key) : PrAll K G (L2.dropK l k) (dropKD m k) := by
  unfold L2.dropK dropKD
  induction h with
  | nil => exact .nil
  | @cons k' v d l m h1 h2 ih =>
    rw [List.filter_cons, List.filter_cons]
    by_cases hk : k' = k
    · simp only [hk, ne_eq, not_true, decide_false, Bool.false_eq_true, if_false]
      exact ih
    · simp only [hk, ne_eq, not_false_iff, decide_true, if_true]
      exact .cons h1 ih
/-- name.pop(e), the name a dict of its own -/
def sDPop (i : Nat) (f : FE) : FO := fun s => if isDic s i = true then (f s).stm fun d s => match s.ρ[i]?, kD d with
    | some (some (.dic es)), some k => if (lkD es k).isSome = true then .nx (s.put i (.dic (dropKD es k))) else .bad
    | _, _ => .bad
  else .bad
theorem isDic_at {s : S} {i : Nat} (h : isDic s i = true) : ∃ es, s.ρ[i]? = some (some (.dic es)) := by
  unfold isDic at h
  split at h
  · exact ⟨_, by assumption⟩
  · cases h
theorem kDPop (i : Nat) {X : Cx} {ex : ExT} {W : WX} {x : Str} {e : Expr} {f : FE} {p apos pos pos2 : Pos} (he : PE X e (tE X.K ex W f)) (hN : X.N[i]? = some x := by rfl) (hv : Vis X.env.scope x := by first | exact Or.inl rfl | exact Or.inr (Or.inl rfl) | exact Or.inr (Or.inr rfl))
    (hd : (x == ("__debug__" : Str)) = false := by decide) (hcd : (x == ("__classdict__" : Str)) = false := by decide) (m : M1 X (.Name x p) "pop" apos e pos := by exact ⟨rfl, rfl, rfl, rfl⟩)
    (hsw : swapsWith (.Call (.Attribute (.Name x p) "pop" apos) [e] [] pos) none pos2.line X.env = pure false := by rfl) :
    PS X (.Expr (.Call (.Attribute (.Name x p) "pop" apos) [e] [] pos) pos2) (tS X.K ex W (sDPop i f)) :=
  PS.imp (ps_expr (pe_dpop1 (pe_var hN hv hd hcd) he m) hsw) fun En σ H ⟨c, G, s, r, h⟩ => by
    have h : PostO X.K ex W c G En (if isDic s i = true then (f s).stm fun d s => match s.ρ[i]?, kD d with
        | some (some (.dic es)), some k => if (lkD es k).isSome = true then .nx (s.put i (.dic (dropKD es k))) else .bad
        | _, _ => .bad
      else .bad) := h
    by_cases hdc : isDic s i = true
    · rw [if_pos hdc] at h
      obtain ⟨es0, hes0⟩ := isDic_at hdc
      obtain ⟨a, kvs0, q1, q2, q3⟩ := r.dicAt hes0
      refine ⟨_, q1, a, rfl, .inl ⟨kvs0, .inl q2⟩, soE r h fun d s1 G1 H1 v e1 r1 hv h1 => ?_⟩
      split at h1
      · rename_i es k hes hk
        obtain ⟨a', kvs, p1, p2, p3⟩ := r1.dicAt hes
        rw [q1] at p1
        cases p1
        have ek := kV_of hv hk
        subst ek
        by_cases hz : (lkD es k).isSome = true
        · rw [if_pos hz] at h1
          obtain ⟨dd, hdd⟩ := Option.isSome_iff_exists.mp hz
          obtain ⟨w, hw, _⟩ := (p3.find k).1 dd hdd
          exact ⟨kvs, k, w, p2, rfl, hw, h1 σ G1 _ (Same.refl _) (r1.setDic hes q1 (p3.drop k))⟩
        · rw [if_neg hz] at h1
          exact h1.elim
      · exact h1.elim
    · rw [if_neg hdc] at h
      exact h.elim
/-! ### pop and extend of a list of its own -/
def isOwn (s : S) (i : Nat) : Bool := match s.ρ[i]? with
  | some (some (.own _)) => true
  | _ => false
theorem isOwn_at {s : S} {i : Nat} (h : isOwn s i = true) : ∃ ds, s.ρ[i]? = some (some (.own ds)) := by
  unfold isOwn at h
  split at h
  · exact ⟨_, by assumption⟩
  · cases h
/-- name.pop() -/
def fPopL (i : Nat) : FE := fun s => match s.ρ[i]? with
  | some (some (.own ds)) => (match ds.getLast? with
    | some d => .ok d (s.put i (.own ds.dropLast))
    | none => .bad)
  | _ => .bad
theorem DpAll.lastV {K : PySem.W.Frag} {G : Hp} {vs : List V} {ds : List D} (h : DpAll K G vs ds) {d : D} (e : ds.getLast? = some d) : ∃ v, vs[vs.length - 1]? = some v ∧ Dp K G v d := by
  rw [List.getLast?_eq_getElem?] at e
  obtain ⟨v, hv, hvd⟩ := h.get e
  exact ⟨v, by rw [h.len]; exact hv, hvd⟩
theorem DpAll.dropLastI {K : PySem.W.Frag} {G : Hp} {vs : List V} {ds : List D} (h : DpAll K G vs ds) : DpAll K G vs.dropLast ds.dropLast := by
  rw [List.dropLast_eq_take, List.dropLast_eq_take, h.len]
  exact h.takeI _
theorem ePopL (i : Nat) {X : Cx} {ex : ExT} {W : WX} {x : Str} {p apos pos : Pos} (hN : X.N[i]? = some x := by rfl) (hv : Vis X.env.scope x := by first | exact Or.inl rfl | exact Or.inr (Or.inl rfl) | exact Or.inr (Or.inr rfl))
    (hd : (x == ("__debug__" : Str)) = false := by decide) (hcd : (x == ("__classdict__" : Str)) = false := by decide) (hbase : attributeBase (.Name x p) "pop" X.env (eval (.Name x p) X.env) = eval (.Name x p) X.env := by rfl) (hline : (apos.endLine == pos.line) = true := by rfl) :
    PE X (.Call (.Attribute (.Name x p) "pop" apos) [] [] pos) (tE X.K ex W (fPopL i)) :=
  PE.imp (pe_bm0 PySem.F.plainAttrs_list PySem.F.slot_list_pop PySem.F.type_list_pop mt_pop (pe_var hN hv hd hcd) hbase hline) fun σ H Q ⟨c, G, s, r, h⟩ => by
    unfold fPopL at h
    split at h
    · rename_i ds hds
      split at h
      · rename_i d hdl
        obtain ⟨q, vs, eq, hdd, r3, b3⟩ := r.takeOwn hds
        obtain ⟨v, hv1, hv2⟩ := hdd.lastV hdl
        refine ⟨_, eq, .inl ⟨rfl, vs, SqL.of b3.at_⟩, q, vs, v, rfl, rfl, b3.at_, hv1, ?_⟩
        exact h G _ (Same.refl _) (r.setOwn hds eq b3.at_ hdd.dropLastI) v hv2
      · exact h.elim
    · exact h.elim
/-- name.extend(e), e a new list -/
def sExt (i : Nat) (f : FA) : FO := fun s => if isOwn s i = true then (f s).stm fun zs s => match s.ρ[i]? with
    | some (some (.own ds)) => if ds.length + zs.length ≤ sizeLine then .nx (s.put i (.own (ds ++ zs))) else .bad
    | _ => .bad
  else .bad
theorem kExt (i : Nat) {X : Cx} {ex : ExT} {W : WX} {x : Str} {e : Expr} {f : FA} {p apos pos pos2 : Pos} (he : PE X e (tO X.K ex W f)) (hN : X.N[i]? = some x := by rfl) (hv : Vis X.env.scope x := by first | exact Or.inl rfl | exact Or.inr (Or.inl rfl) | exact Or.inr (Or.inr rfl))
    (hd : (x == ("__debug__" : Str)) = false := by decide) (hcd : (x == ("__classdict__" : Str)) = false := by decide)
    (hbase : attributeBase (.Name x p) "extend" X.env (eval (.Name x p) X.env) = eval (.Name x p) X.env := by rfl)
    (hfew : ((backTo pos (starEach [e] X.env)).all (fun x => !x.1) && (backToKw pos (keywordEach [] X.env)).all (fun x => x.1.isSome) && decide ([e].length + ([] : List Keyword).length + (if ([] : List Keyword).isEmpty then 0 else 1) < 30)) = true := by rfl)
    (hline : (apos.endLine == pos.line) = true := by rfl) (hs : starEach [e] X.env = (false, eval e X.env) :: starEach [] X.env := by rfl) (hplain : (backTo pos (starEach [] X.env)).any (·.1) = false := by rfl)
    (hsw : swapsWith (.Call (.Attribute (.Name x p) "extend" apos) [e] [] pos) none pos2.line X.env = pure false := by rfl) :
    PS X (.Expr (.Call (.Attribute (.Name x p) "extend" apos) [e] [] pos) pos2) (tS X.K ex W (sExt i f)) :=
  PS.imp (ps_expr (pe_bm PySem.F.plainAttrs_list PySem.F.slot_list_extend PySem.F.type_list_extend mt_extend (pe_var hN hv hd hcd) (pa_cons he pa_nil hs) hbase hfew hline hs hplain) hsw) fun En σ H ⟨c, G, s, r, h⟩ => by
    have h : PostO X.K ex W c G En (if isOwn s i = true then (f s).stm fun zs s => match s.ρ[i]? with
        | some (some (.own ds)) => if ds.length + zs.length ≤ sizeLine then .nx (s.put i (.own (ds ++ zs))) else .bad
        | _ => .bad
      else .bad) := h
    by_cases ho : isOwn s i = true
    · rw [if_pos ho] at h
      obtain ⟨ds0, hds0⟩ := isOwn_at ho
      obtain ⟨q, vs0, eq, hdd0, r3, b3⟩ := r.takeOwn hds0
      refine ⟨_, eq, .inl ⟨rfl, vs0, SqL.of b3.at_⟩, ?_⟩
      refine ⟨c, G, s, r, h.fromR fun zs s1 G1 H1 e1 r1 h1 v hvf => ?_⟩
      obtain ⟨p2, zv, rfl, hzd, bz⟩ := hvf.beside
      split at h1
      · rename_i ds hds
        obtain ⟨q', vs, eq', hdd, r4, b4⟩ := r1.takeOwn hds
        rw [eq] at eq'
        cases eq'
        by_cases hz : ds.length + zs.length ≤ sizeLine
        · rw [if_pos hz] at h1
          refine ⟨q, p2, vs, zv, rfl, rfl, b4.at_, bz.at_, by rw [hdd.len, hzd.len]; exact hz, ?_⟩
          exact h1 σ G1 _ (Same.refl _) (r1.setOwn hds eq b4.at_ (hdd.app hzd))
        · rw [if_neg hz] at h1
          exact h1.elim
      · exact h1.elim
    · rw [if_neg ho] at h
      exact h.elim
/-! ### n.bit_length() -/
def dBits (d : D) : Option D := match d with
  | .int i => some (.int (Builtin.Int.intBits i : Nat))
  | _ => none
theorem eBitsF {X : Cx} {ex : ExT} {W : WX} {o : Expr} {f : FE} {apos pos : Pos} (he : PE X o (tE X.K ex W f)) (hbase : attributeBase o "bit_length" X.env (eval o X.env) = eval o X.env := by rfl) (hline : (apos.endLine == pos.line) = true := by rfl) :
    PE X (.Call (.Attribute o "bit_length" apos) [] [] pos) (tE X.K ex W (fB1 dBits f)) := PE.imp (pe_bits he hbase hline) fun σ H Q ⟨c, G, s, r, h⟩ => inE r h fun d s1 G1 H1 v e1 r1 hv h1 => by
  cases d with
  | int i =>
    cases hv
    exact ⟨i, rfl, h1.val r1 (.int _)⟩
  | _ => exact h1.elim
/-! ### a new object as a value -/
def fFzN (f : S → R Ent) : FE := fun s => (f s).bind fun e s => match e with
  | .own ds => .ok (.list ds) s
  | .dic es => .ok (dicD es) s
  | _ => .bad
theorem eFzN {X : Cx} {ex : ExT} {W : WX} {e : Expr} {f : S → R Ent} (he : PE X e (tN X.K ex W f)) : PE X e (tE X.K ex W (fFzN f)) := PE.imp he fun σ H Q ⟨c, G, s, r, h⟩ => inN r h fun en s1 G1 H1 v e1 r1 hv h1 => by
  cases en with
  | own ds =>
    obtain ⟨⟨p, ho, rfl, hG, h0, hw, hH, vs, rfl, hd⟩, _, hs⟩ := hv
    obtain ⟨sm, r2⟩ := r1.freezeBeside hs hG h0 hw hH rfl
    exact h1 _ H1 sm r2 _ (.lst (SqL.of upd_same) (hd.up sm))
  | dic es =>
    obtain ⟨⟨p, ho, rfl, hG, h0, hw, hH, kvs, rfl, hd⟩, _, hs⟩ := hv
    obtain ⟨sm, r2⟩ := r1.freezeBeside hs hG h0 hw hH rfl
    exact h1 _ H1 sm r2 _ (.dct upd_same (hd.up sm).kvs)
  | _ => exact h1.elim
/-- the turns that a while may take -/
def wF : Nat := 100000
end PD
/-! PD22: dict(zip(a, b)). -/
namespace PDZ
open PySem PySem.Spec RZ
abbrev zipO (f0 : Value) (f1 : Bool) (TI TO : Addr) : Obj := { cls := .type "zip", dict := none, data := .fields #[f0, .bool f1, .bool false, .ref TI, .ref TO], slots := #[] }
section
variable {prog : Program} {w : World} {A : Around} {E : Value → Shared → Prop} {s : Shared}
theorem flagSet {z TI TO : Addr} {f0 : Value} {f1 : Bool} {Post : Bool → Shared → Prop} (hz : s.heap.get? z = some (zipO f0 f1 TI TO))
    (h : ∀ h1, h1.get? z = some (zipO f0 true TI TO) → Heap.SameBut z s.heap h1 → Post false { s with heap := h1 }) :
    wpAny (model prog w) A (if (Value.bool f1 != Value.bool true) = true then (do setField (.ref z) 1 (.bool true); pure false) else pure false) Post E s := by
  cases f1 with
  | true =>
    rw [if_neg (by decide)]
    exact wpAny_pure (h s.heap hz ⟨rfl, fun _ _ => rfl⟩)
  | false =>
    rw [if_pos (by decide)]
    exact wpAny_bind (wpAny_setField_rec hz (by simp) fun h1 a b => wpAny_pure (h h1 a b))
/-- a turn of zip over two tuples while the last pair is still known -/
theorem again_item {z TI TO i1 i2 l1 l2 T0 : Addr} {oT : Obj} {f1 : Bool} {k1 k2 : Nat} {xs ys : Array Value} {x y : Value} {Q : Value → Shared → Prop} (D : ZipApart z TI TO i1 i2 l1 l2)
    (hz : s.heap.get? z = some (zipO (rawInt T0) f1 TI TO)) (hT0 : s.heap.get? T0 = some oT) (hTI : IsPair s.heap TI (.ref i1) (.ref i2))
    (g1 : s.heap.IsTupleIter i1 l1 k1) (g2 : s.heap.IsTupleIter i2 l2 k2) (e1 : s.heap.IsTuple l1 xs) (e2 : s.heap.IsTuple l2 ys) (ex : xs[k1]? = some x) (ey : ys[k2]? = some y)
    (hQ : ∀ h', h'.get? z = some (zipO (rawInt T0) true TI TO) → h'.IsTupleIter i1 l1 (k1 + 1) → h'.IsTupleIter i2 l2 (k2 + 1) → IsPair h' s.heap.objs.size x y → h'.objs.size = s.heap.objs.size + 1 →
      (∀ c o, c ≠ z → c ≠ i1 → c ≠ i2 → s.heap.get? c = some o → h'.get? c = some o) → Q (.ref s.heap.objs.size) { s with heap := h' }) :
    wpAny (model prog w) A (Builtin.«zip.__next__» ⟨[.ref z], []⟩) (fun r s' => ∃ v, r = .done (.ret v) ∧ Q v s') E s := by
  show wpAny _ _ (field (.ref z) 2 >>= fun _ => _) _ _ s
  refine wpAny_bind (wpAny_field hz rfl (x := .bool false) rfl ?_)
  show wpAny _ _ (field (.ref z) 3 >>= fun _ => _) _ _ s
  refine wpAny_bind (wpAny_field hz rfl (x := .ref TI) rfl (wpAny_bind (wpAny_seqItems hTI rfl ?_)))
  show wpAny _ _ (Builtin.SmallTypes.ownedTupleIsFree (.ref z) >>= fun _ => _) _ _ s
  refine wpAny_bind ?_
  unfold Builtin.SmallTypes.ownedTupleIsFree
  refine wpAny_bind (wpAny_field hz rfl (x := rawInt T0) rfl ?_)
  show wpAny _ _ (loadIfAlive ((T0 : Int).toNat) >>= fun _ => _) _ _ s
  rw [Int.toNat_natCast]
  refine wpAny_bind (PySem.W.kdx_alive hT0 ?_)
  simp only [Option.isNone_some, Bool.false_eq_true, if_false]
  refine wpAny_bind (wpAny_field hz rfl (x := .bool f1) rfl ?_)
  refine flagSet hz fun h1 hz1 hs1 => ?_
  simp only [Bool.false_eq_true, if_false]
  refine wpAny_bind ?_
  simp only [List.forIn_cons, List.forIn_nil, ← Array.forIn_toList]
  refine wpAny_bind (wpAny_bind (wpAny_holding ?_))
  show wpAny _ _ (Builtin.SmallTypes.nextOf (.ref i1) >>= fun _ => _) _ _ _
  refine wpAny_bind (nextOf_tuple_item (g1.extBut hs1.extBut D.i1z) (e1.extBut hs1.extBut D.l1z) ex fun h2 n2 hs2 => wpAny_pure (wpAny_pure ?_))
  dsimp only
  refine wpAny_bind (wpAny_bind (wpAny_holding ?_))
  show wpAny _ _ (Builtin.SmallTypes.nextOf (.ref i2) >>= fun _ => _) _ _ _
  refine wpAny_bind (nextOf_tuple_item ((g2.extBut hs1.extBut D.i2z).extBut hs2.extBut D.i12.symm) ((e2.extBut hs1.extBut D.l2z).extBut hs2.extBut D.l2i1) ey fun h3 n3 hs3 => wpAny_pure (wpAny_pure (wpAny_pure ?_)))
  dsimp only
  refine wpAny_bind (wpAny_newTuple (items := [x, y]) ?_ (by show (2 : Nat) ≤ sizeLine; decide))
  have hsz : h3.objs.size = s.heap.objs.size := by rw [hs3.1, hs2.1, hs1.1]
  have kp : ∀ c o, c ≠ z → c ≠ i1 → c ≠ i2 → s.heap.get? c = some o → h3.get? c = some o := fun c o c1 c2 c3 q => hs3.extBut _ _ c3 (hs2.extBut _ _ c2 (hs1.extBut _ _ c1 q))
  have hz3 : h3.get? z = some (zipO (rawInt T0) true TI TO) := hs3.extBut _ _ D.i2z.symm (hs2.extBut _ _ D.i1z.symm hz1)
  have up : ∀ c o, h3.get? c = some o → (h3.push { cls := .type "tuple", data := .seq #[x, y] }).get? c = some o := fun c o q => Heap.get?_push_of_some _ q
  have ht : (h3.push { cls := .type "tuple", data := .seq #[x, y] }).get? h3.objs.size = some { cls := .type "tuple", data := .seq #[x, y] } := Heap.get?_push_size _ rfl
  have hs : (h3.push { cls := .type "tuple", data := .seq #[x, y] }).objs.size = h3.objs.size + 1 := Heap.size_push ..
  refine wpAny_pure ⟨_, rfl, ?_⟩
  rw [hsz] at ht hs
  show Q (.ref h3.objs.size) _
  rw [hsz]
  exact hQ _ (up _ _ hz3) ((n2.extBut hs3.extBut D.i12).at fun o q => up _ o q) (n3.at fun o q => up _ o q) ht hs fun c o c1 c2 c3 q => up c o (kp c o c1 c2 c3 q)
/-- zip is at its end, the last pair still known -/
theorem again_end {z TI TO i1 i2 l1 l2 T0 : Addr} {oT : Obj} {f1 : Bool} {k1 k2 : Nat} {xs ys : Array Value} {Q : Fin → Shared → Prop} (hh : A.handled = none) (D : ZipApart z TI TO i1 i2 l1 l2)
    (hz : s.heap.get? z = some (zipO (rawInt T0) f1 TI TO)) (hT0 : s.heap.get? T0 = some oT) (hTI : IsPair s.heap TI (.ref i1) (.ref i2))
    (g1 : s.heap.IsTupleIter i1 l1 k1) (g2 : s.heap.IsTupleIter i2 l2 k2) (e1 : s.heap.IsTuple l1 xs) (e2 : s.heap.IsTuple l2 ys) (hend : xs[k1]? = none ∨ ys[k2]? = none)
    (hE : ∀ h' e, (∀ c o, c ≠ z → c ≠ i1 → c ≠ i2 → s.heap.get? c = some o → h'.get? c = some o) → (∃ o, h'.get? e = some o ∧ o.cls = .type "StopIteration") → E (.ref e) { s with heap := h' }) :
    wpAny (model prog w) A (Builtin.«zip.__next__» ⟨[.ref z], []⟩) Q E s := by
  show wpAny _ _ (field (.ref z) 2 >>= fun _ => _) _ _ s
  refine wpAny_bind (wpAny_field hz rfl (x := .bool false) rfl ?_)
  show wpAny _ _ (field (.ref z) 3 >>= fun _ => _) _ _ s
  refine wpAny_bind (wpAny_field hz rfl (x := .ref TI) rfl (wpAny_bind (wpAny_seqItems hTI rfl ?_)))
  show wpAny _ _ (Builtin.SmallTypes.ownedTupleIsFree (.ref z) >>= fun _ => _) _ _ s
  refine wpAny_bind ?_
  unfold Builtin.SmallTypes.ownedTupleIsFree
  refine wpAny_bind (wpAny_field hz rfl (x := rawInt T0) rfl ?_)
  show wpAny _ _ (loadIfAlive ((T0 : Int).toNat) >>= fun _ => _) _ _ s
  rw [Int.toNat_natCast]
  refine wpAny_bind (PySem.W.kdx_alive hT0 ?_)
  simp only [Option.isNone_some, Bool.false_eq_true, if_false]
  refine wpAny_bind (wpAny_field hz rfl (x := .bool f1) rfl ?_)
  refine flagSet hz fun h1 hz1 hs1 => ?_
  simp only [Bool.false_eq_true, if_false]
  refine wpAny_bind ?_
  simp only [List.forIn_cons, List.forIn_nil, ← Array.forIn_toList]
  refine wpAny_bind (wpAny_bind (wpAny_holding ?_))
  show wpAny _ _ (Builtin.SmallTypes.nextOf (.ref i1) >>= fun _ => _) _ _ _
  cases hx : xs[k1]? with
  | none =>
    exact wpAny_bind (nextOf_tuple_end hh (g1.extBut hs1.extBut D.i1z) (e1.extBut hs1.extBut D.l1z) hx fun h2 e hs2 he => hE h2 e (fun c o c1 c2 _ q => hs2 _ _ c2 (hs1.extBut _ _ c1 q)) he)
  | some x =>
    have hy : ys[k2]? = none := by rcases hend with h | h; rw [hx] at h; cases h; exact h
    refine wpAny_bind (nextOf_tuple_item (g1.extBut hs1.extBut D.i1z) (e1.extBut hs1.extBut D.l1z) hx fun h2 n2 hs2 => wpAny_pure (wpAny_pure ?_))
    dsimp only
    refine wpAny_bind (wpAny_bind (wpAny_holding ?_))
    show wpAny _ _ (Builtin.SmallTypes.nextOf (.ref i2) >>= fun _ => _) _ _ _
    exact wpAny_bind (nextOf_tuple_end hh ((g2.extBut hs1.extBut D.i2z).extBut hs2.extBut D.i12.symm) ((e2.extBut hs1.extBut D.l2z).extBut hs2.extBut D.l2i1) hy fun h3 e hs3 he =>
      hE h3 e (fun c o c1 c2 c3 q => hs3 _ _ c3 (hs2.extBut _ _ c2 (hs1.extBut _ _ c1 q))) he)
theorem pyNext_again {z TI TO i1 i2 l1 l2 T0 : Addr} {oT : Obj} {f1 : Bool} {k1 k2 : Nat} {xs ys : Array Value} {x y : Value} {Q : Option Value → Shared → Prop} (D : ZipApart z TI TO i1 i2 l1 l2)
    (hz : s.heap.get? z = some (zipO (rawInt T0) f1 TI TO)) (hT0 : s.heap.get? T0 = some oT) (hTI : IsPair s.heap TI (.ref i1) (.ref i2))
    (g1 : s.heap.IsTupleIter i1 l1 k1) (g2 : s.heap.IsTupleIter i2 l2 k2) (e1 : s.heap.IsTuple l1 xs) (e2 : s.heap.IsTuple l2 ys) (ex : xs[k1]? = some x) (ey : ys[k2]? = some y)
    (hQ : ∀ h', h'.get? z = some (zipO (rawInt T0) true TI TO) → h'.IsTupleIter i1 l1 (k1 + 1) → h'.IsTupleIter i2 l2 (k2 + 1) → IsPair h' s.heap.objs.size x y → h'.objs.size = s.heap.objs.size + 1 →
      (∀ c o, c ≠ z → c ≠ i1 → c ≠ i2 → s.heap.get? c = some o → h'.get? c = some o) → Q (some (.ref s.heap.objs.size)) { s with heap := h' }) :
    wpAny (model prog w) A (pyNext (.ref z)) Q E s := by
  have hT : s.TypeIs (.ref z) "zip" := ⟨_, hz, rfl⟩
  unfold pyNext
  refine wpAny_bind (wpAny_attempt (wpAny_callSpecial?_slot (name := Str.ofString "__next__") hT F.slot_zip_next
    (wpAny_call_entry F.slot_zip_next hT F.entry_zip_next (again_item D hz hT0 hTI g1 g2 e1 e2 ex ey fun h' a1 a2 a3 a4 a5 a6 => ?_) (F.args_zip_next_1 _))))
  exact wpAny_pure (hQ h' a1 a2 a3 a4 a5 a6)
theorem pyNext_again_end {z TI TO i1 i2 l1 l2 T0 : Addr} {oT : Obj} {f1 : Bool} {k1 k2 : Nat} {xs ys : Array Value} {Q : Option Value → Shared → Prop} (hh : A.handled = none) (D : ZipApart z TI TO i1 i2 l1 l2)
    (hz : s.heap.get? z = some (zipO (rawInt T0) f1 TI TO)) (hT0 : s.heap.get? T0 = some oT) (hTI : IsPair s.heap TI (.ref i1) (.ref i2))
    (g1 : s.heap.IsTupleIter i1 l1 k1) (g2 : s.heap.IsTupleIter i2 l2 k2) (e1 : s.heap.IsTuple l1 xs) (e2 : s.heap.IsTuple l2 ys) (hend : xs[k1]? = none ∨ ys[k2]? = none)
    (hQ : ∀ h', (∀ c o, c ≠ z → c ≠ i1 → c ≠ i2 → s.heap.get? c = some o → h'.get? c = some o) → Q none { s with heap := h' }) : wpAny (model prog w) A (pyNext (.ref z)) Q E s := by
  have hT : s.TypeIs (.ref z) "zip" := ⟨_, hz, rfl⟩
  unfold pyNext
  refine wpAny_bind (wpAny_attempt (wpAny_callSpecial?_slot (name := Str.ofString "__next__") hT F.slot_zip_next
    (wpAny_call_entry F.slot_zip_next hT F.entry_zip_next (again_end hh D hz hT0 hTI g1 g2 e1 e2 hend fun h' e hk he => ?_) (F.args_zip_next_1 _))))
  obtain ⟨o, ho, hc⟩ := he
  refine wpAny_bind (wpAny_isInstance (T := "StopIteration") (b := true) ⟨o, ho, hc⟩ isSubtype_stop ?_)
  exact wpAny_pure (hQ _ hk)
end
end PDZ
/-! PD23: dict(zip(a, b)) of two tuples. -/
namespace PDZ
open PySem PySem.Spec RZ
section
variable {prog : Program} {w : World}
/-- what zip over two tuples holds before turn i, while a dict at d fills up -/
def ZT (z TI TO i1 i2 l1 l2 d : Addr) (xs ys : Array Value) (i : Nat) (h : Heap) : Prop :=
  (IsPair h TI (.ref i1) (.ref i2) ∧ h.IsTupleIter i1 l1 i ∧ h.IsTupleIter i2 l2 i ∧ h.IsTuple l1 xs ∧ h.IsTuple l2 ys) ∧
  ((h.get? z = some (zipO .none false TI TO) ∧ ∃ a b, IsPair h TO a b) ∨ ∃ (T : Addr) (f : Bool) (oT : Obj), h.get? z = some (zipO (rawInt T) f TI TO) ∧ h.get? T = some oT ∧ T ≠ z ∧ T ≠ i1 ∧ T ≠ i2 ∧ T ≠ d)
theorem zt_src {A : Around} (hA : A.handled = none) {z TI TO i1 i2 l1 l2 d : Addr} {xs ys : Array Value} (D : ZipApart z TI TO i1 i2 l1 l2)
    (dz : d ≠ z) (dTI : d ≠ TI) (dTO : d ≠ TO) (d1 : d ≠ i1) (d2 : d ≠ i2) (dl1 : d ≠ l1) (dl2 : d ≠ l2) :
    PairSrc prog w A z d [z, TO, i1, i2] (min xs.size ys.size) (fun i k v => xs[i]? = some k ∧ ys[i]? = some v) (ZT z TI TO i1 i2 l1 l2 d xs ys) := by
  have out : ∀ {h h' : Heap}, (∀ c o, c ≠ z → c ≠ TO → c ≠ i1 → c ≠ i2 → h.get? c = some o → h'.get? c = some o) → ∀ c o, c ∉ [z, TO, i1, i2] → h.get? c = some o → h'.get? c = some o := by
    intro h h' k c o m e
    simp only [List.mem_cons, List.not_mem_nil, or_false, not_or] at m
    exact k c o m.1 m.2.1 m.2.2.1 m.2.2.2 e
  refine ⟨?_, ?_, ?_, ?_⟩
  · simp [dz, dTO, d1, d2]
  · rintro i h h' ⟨⟨a1, a2, a3, a4, a5⟩, a6⟩ k
    refine ⟨⟨k _ _ dTI.symm a1, a2.at fun o e => k _ o d1.symm e, a3.at fun o e => k _ o d2.symm e, a4.at fun o e => k _ o dl1.symm e, a5.at fun o e => k _ o dl2.symm e⟩, ?_⟩
    rcases a6 with ⟨b1, x, y, b2⟩ | ⟨T, f, oT, b1, b2, b3⟩
    · exact .inl ⟨k _ _ dz.symm b1, x, y, k _ _ dTO.symm b2⟩
    · exact .inr ⟨T, f, oT, k _ _ dz.symm b1, k _ _ b3.2.2.2 b2, b3⟩
  · rintro i s Q E hi ⟨⟨a1, a2, a3, a4, a5⟩, a6⟩ hd hQ
    have ex : xs[i]? = some (xs[i]'(by omega)) := Array.getElem?_eq_getElem (by omega)
    have ey : ys[i]? = some (ys[i]'(by omega)) := Array.getElem?_eq_getElem (by omega)
    have fr : ∀ {c o}, s.heap.get? c = some o → s.heap.objs.size ≠ c := fun e => Nat.ne_of_gt (Heap.lt_size e)
    have n1 : s.heap.objs.size ≠ i1 := let ⟨_, e, _⟩ := a2; fr e
    have n2 : s.heap.objs.size ≠ i2 := let ⟨_, e, _⟩ := a3; fr e
    rcases a6 with ⟨b1, x, y, b2⟩ | ⟨T, f, oT, b1, b2, b3⟩
    · refine pyNext_zipT_item D b1 a1 b2 a2 a3 a4 a5 ex ey fun h' c1 c2 c3 c4 c5 c6 k => ?_
      refine hQ s.heap.objs.size _ _ h' s.toks ⟨ex, ey⟩ (.inl ⟨_, c5, rfl, _, rfl⟩) ⟨⟨k _ _ D.TIz D.TITO D.TIi1 D.TIi2 a1, c3, c4, ?_, ?_⟩, .inr ⟨_, false, _, c1, c5, fr b1, n1, n2, Nat.ne_of_gt hd⟩⟩ (out k)
      · exact a4.at fun o e => k _ o D.l1z D.l1TO D.l1i1 D.l1i2 e
      · exact a5.at fun o e => k _ o D.l2z D.l2TO D.l2i1 D.l2i2 e
    · refine pyNext_again D b1 b2 a1 a2 a3 a4 a5 ex ey fun h' c1 c3 c4 c5 c6 k => ?_
      refine hQ s.heap.objs.size _ _ h' s.toks ⟨ex, ey⟩ (.inl ⟨_, c5, rfl, _, rfl⟩) ⟨⟨k _ _ D.TIz D.TIi1 D.TIi2 a1, c3, c4, ?_, ?_⟩, .inr ⟨T, true, oT, c1, k _ _ b3.1 b3.2.1 b3.2.2.1 b2, b3⟩⟩ (out fun c o m1 _ m3 m4 e => k c o m1 m3 m4 e)
      · exact a4.at fun o e => k _ o D.l1z D.l1i1 D.l1i2 e
      · exact a5.at fun o e => k _ o D.l2z D.l2i1 D.l2i2 e
  · rintro s Q E ⟨⟨a1, a2, a3, a4, a5⟩, a6⟩ hQ
    have hend : xs[min xs.size ys.size]? = none ∨ ys[min xs.size ys.size]? = none := by
      rw [Array.getElem?_eq_none_iff, Array.getElem?_eq_none_iff]
      omega
    rcases a6 with ⟨b1, x, y, b2⟩ | ⟨T, f, oT, b1, b2, b3⟩
    · exact pyNext_zipT_end hA D b1 a1 b2 a2 a3 a4 a5 hend fun h' k => hQ h' s.toks (out k)
    · exact pyNext_again_end hA D b1 b2 a1 a2 a3 a4 a5 hend fun h' k => hQ h' s.toks (out fun c o m1 _ m3 m4 e => k c o m1 m3 m4 e)
def ZOk (z TI TO i1 i2 l1 l2 : Addr) (xs ys : Array Value) (h : Heap) : Prop :=
  (h.get? z = some (zipO .none false TI TO) ∧ ∃ a b, IsPair h TO a b) ∧ IsPair h TI (.ref i1) (.ref i2) ∧ h.IsTupleIter i1 l1 0 ∧ h.IsTupleIter i2 l2 0 ∧ h.IsTuple l1 xs ∧ h.IsTuple l2 ys
theorem zt_arg {z TI TO i1 i2 l1 l2 : Addr} (D : ZipApart z TI TO i1 i2 l1 l2) (xs ys : Array Value) :
    PairArg prog w "zip" z [z, TI, TO, i1, i2, l1, l2] [z, TO, i1, i2] (min xs.size ys.size) (fun i k v => xs[i]? = some k ∧ ys[i]? = some v) (ZOk z TI TO i1 i2 l1 l2 xs ys) := by
  refine ⟨fun s ok => ⟨_, ok.1.1, rfl⟩, by decide, ?_, ?_, ?_, fun A s Q E hA ok h => getAttrOr_miss_zip ok.1.1 rfl rfl rfl zip_no_keys (by decide +kernel) hA h, ?_⟩
  · rintro h h' ⟨⟨a1, x, y, a2⟩, a3, a4, a5, a6, a7⟩ k
    exact ⟨⟨k _ _ a1, x, y, k _ _ a2⟩, k _ _ a3, a4.at fun o => k _ o, a5.at fun o => k _ o, a6.at fun o => k _ o, a7.at fun o => k _ o⟩
  · rintro h ⟨⟨a1, x, y, a2⟩, a3, ⟨_, a4, _⟩, ⟨_, a5, _⟩, ⟨_, a6, _⟩, ⟨_, a7, _⟩⟩ b hb
    simp only [List.mem_cons, List.not_mem_nil, or_false] at hb
    rcases hb with rfl | rfl | rfl | rfl | rfl | rfl | rfl
    all_goals first | exact ⟨_, a1⟩ | exact ⟨_, a3⟩ | exact ⟨_, a2⟩ | exact ⟨_, a4⟩ | exact ⟨_, a5⟩ | exact ⟨_, a6⟩ | exact ⟨_, a7⟩
  · intro b hb
    simp only [List.mem_cons, List.not_mem_nil, or_false] at hb
    rcases hb with rfl | rfl | rfl | rfl <;> simp
  · rintro A s d Q E hA ⟨⟨a1, a2⟩, a3, a4, a5, a6, a7⟩ hd hf h
    simp only [List.mem_cons, List.not_mem_nil, or_false, not_or] at hf
    obtain ⟨f1, f2, f3, f4, f5, f6, f7⟩ := hf
    exact wpAny_pyIter_zip a1 (h z _ (ZT z TI TO i1 i2 l1 l2 d xs ys) s.heap s.toks (zt_src hA D f1 f2 f3 f4 f5 f6 f7) ⟨⟨a3, a4, a5, a6, a7⟩, .inl ⟨a1, a2⟩⟩ (fun _ _ e => e) fun b hb => .inl hb)
end
end PDZ
/-! PD24: the rule for dict(zip(a, b)), two tuples. -/
namespace PDZ
open PySem PySem.Spec RZ L2
open PyProof.Rows hiding St
section
variable {X : Cx} {pins : List (Addr × Obj)} {σ : L2.St}
/-- a zip is there, made of two tuples -/
def ZMid (X : Cx) (pins : List (Addr × Obj)) (σ : L2.St) (Q : VK) (u : Value) (s2 : Shared) : Prop :=
  ∃ (s1 : Shared) (H1 : Hp) (z TI TO i1 i2 a b : Addr) (ks : List Key) (ys : List V) (us vs : List Value), Inv X pins σ H1 s1 ∧ Vals (ks.map kV) us ∧ Vals ys vs ∧ us.length ≤ sizeLine ∧ u = .ref z ∧ ZipApart z TI TO i1 i2 a b ∧ ZOk z TI TO i1 i2 a b us.toArray vs.toArray s2.heap ∧
    (∃ h2, s2 = { s1 with heap := h2 }) ∧ (∀ c o, s1.heap.get? c = some o → c ∉ [z, TO, i1, i2] ∧ s2.heap.get? c = some o) ∧ s1.heap.objs.size ≤ s2.heap.objs.size ∧ ∀ p, H1 p = none → Q (.ref p) (upd H1 p (.dK (mergeK [] (ks.zip ys))))
theorem zip_kv : ∀ {ks : List Key} {ys : List V} {vs : List Value}, Vals ys vs → KV (ks.zip ys) (ks.zip vs)
  | [], _, _, _ => by rw [List.zip_nil_left, List.zip_nil_left]; exact .nil
  | _ :: _, _, _, .nil => .nil
  | k :: ks, _, _, .cons h t => .cons ⟨rfl, h⟩ (zip_kv (ks := ks) t)
def tDZip (K : PySem.W.Frag) (ta : TA) : TE := fun σ H Q => ta σ H fun xs H1 => ∃ (a b : Addr) (ks : List Key) (ys : List V), xs = [.ref a, .ref b] ∧ SqT K H1 a (ks.map kV) ∧ SqT K H1 b ys ∧
  ∀ p, H1 p = none → Q (.ref p) (upd H1 p (.dK (mergeK [] (ks.zip ys))))
theorem mid_dict {Q : VK} {u : Value} {s2 : Shared} (hc : X.calm = true) (m : ZMid X pins σ Q u s2) : wpAny (model X.prog X.w) X.A (call (.type "dict") [u]) (EP X pins σ Q) X.xe s2 := by
  obtain ⟨s1, H1, z, TI, TO, i1, i2, a, b, ks, ys, us, vs, I1, r1, r2, hl, rfl, D, ok, ⟨h2, rfl⟩, kp, hs, q⟩ := m
  have l1 : ks.length = us.length := by simpa using r1.length
  have l2 := r2.length
  have mn : (ks.zip vs).length = min us.toArray.size vs.toArray.size := by rw [List.length_zip, l1, List.size_toArray, List.size_toArray]
  have hlen : (ks.zip vs).length ≤ sizeLine := by rw [mn, List.size_toArray]; omega
  refine call_dict_pairs (knd := mixKind X.prog X.w) (kvs := ks.zip vs) (zt_arg D us.toArray vs.toArray) (I1.ok.hd hc) ok ⟨mn, fun i key v e => ?_⟩ (by rw [← mn]; exact hlen) fun h' tk hd k => ?_
  · obtain ⟨e1, e2⟩ := e
    rw [List.getElem?_toArray] at e1 e2
    have hi : i < ks.length := by rw [l1]; exact (List.getElem?_eq_some_iff.mp e1).1
    refine ⟨ks[i], by rw [List.getElem?_zip_eq_some]; exact ⟨List.getElem?_eq_getElem hi, e2⟩, ?_⟩
    obtain ⟨w, ew, rw'⟩ := r1.get (show (ks.map kV)[i]? = some (kV ks[i]) by rw [List.getElem?_map, List.getElem?_eq_getElem hi]; rfl)
    rw [e1] at ew
    cases ew
    exact kV_is rw'
  · have kv := zip_kv (ks := ks) r2
    have hm : (h2.objs.size == sysModules) = false := beq_eq_false_iff_ne.mpr (Nat.ne_of_gt (Nat.lt_of_lt_of_le I1.big hs))
    have hz : (mergeK [] (ks.zip ys)).length ≤ sizeLine := by
      refine Nat.le_trans (length_mergeK _ _) ?_
      rw [List.length_nil, Nat.zero_add, kv.length]
      exact hlen
    exact ⟨.ref h2.objs.size, upd H1 h2.objs.size (.dK (mergeK [] (ks.zip ys))), I1.laid (t' := tk) (fun c o e => k c o (kp c o e).1 (kp c o e).2) hs (show ObjOk X.prog X.w _ _ _ (.dK (mergeK [] (ks.zip ys))) from ⟨hz, hm, merged [] (ks.zip vs), KV.merge kv .nil, hd⟩), rfl, q _ (I1.hok.fresh hs)⟩
theorem pe_dictzip {e e2 : Expr} {ta : TA} {p p2 pos pos2 : Pos} (hc : X.calm = true) (hm : X.mg "zip" = none) (hm2 : X.mg "dict" = none) (ha : PA X [e, e2] ta) (hg : Gl X "zip" := by rfl) (hg2 : Gl X "dict" := by rfl)
    (hs : starEach [e, e2] X.env = (false, eval e X.env) :: starEach [e2] X.env := by rfl) (hpl : (backTo pos2 (starEach [e2] X.env)).any (·.1) = false := by rfl)
    (hs2 : starEach [.Call (.Name "zip" p2) [e, e2] [] pos2] X.env = (false, eval (.Call (.Name "zip" p2) [e, e2] [] pos2) X.env) :: starEach [] X.env := by rfl) (hpl2 : (backTo pos (starEach [] X.env)).any (·.1) = false := by rfl) :
    PE X (.Call (.Name "dict" p) [.Call (.Name "zip" p2) [e, e2] [] pos2] [] pos) (tDZip X.K ta) := by
  have hb : bootBuiltins (Str.ofString "dict") = some (.type "dict") := by decide +kernel
  refine ⟨fun pins s σ H Q I h => ?_⟩
  refine wpAny_Call_Name_kw (ld_blt I hg2 hm2 hb ?_ (by decide) (by decide))
  refine PyProof.Rows.callWith_type1 ?_ hs2 hpl2
  rw [hs2]
  show wpAny _ _ (spliced ((false, eval (.Call (.Name "zip" p2) [e, e2] [] pos2) X.env) :: backTo pos (starEach [] X.env))) _ _ s
  refine Calls.spliced_cons (thn (Q := ZMid X pins σ Q) ?_ fun u s2 m => ?_)
  · refine Call_ (ld_blt I hg hm PyProof.Rows.boot_zip (PyProof.Rows.callWith_type1 (thn (ha.run pos2 pins s σ H _ I h) fun us s1 ⟨xs, H1, I1, r1, q1⟩ => ?_) hs hpl))
    obtain ⟨a, b, ks, ys, ex, ta, tb, q⟩ := q1
    subst ex
    obtain ⟨u, v, ei, ru, rv⟩ := vals2 r1
    subst ei
    cases ru
    cases rv
    obtain ⟨its, v1, p1, z1⟩ := I1.tuple ta
    obtain ⟨its2, v2, p2, _⟩ := I1.tuple tb
    obtain ⟨o1, ho1, _⟩ := id p1
    obtain ⟨o2, ho2, _⟩ := id p2
    refine call_zipT (show s1.heap.IsTuple a its.toArray from p1) (show s1.heap.IsTuple b its2.toArray from p2) fun h' hz hTI hTO h1 h2 hsz hk => ?_
    refine ⟨s1, H1, _, _, _, _, _, a, b, ks, ys, its, its2, I1, v1, v2, by rw [← v1.length]; exact z1, rfl, PySem.W.ktu_apart s1.heap.objs.size a b (Heap.lt_size ho1) (Heap.lt_size ho2), ⟨⟨hz, _, _, hTO⟩, hTI, h1, h2, ?_, ?_⟩, ⟨h', rfl⟩, fun c o e => ⟨?_, hk c o e⟩, ?_, q⟩
    · exact Heap.IsTuple.at (show s1.heap.IsTuple a its.toArray from p1) fun o e => hk _ o e
    · exact Heap.IsTuple.at (show s1.heap.IsTuple b its2.toArray from p2) fun o e => hk _ o e
    · have := Heap.lt_size e
      simp only [List.mem_cons, List.not_mem_nil, or_false, not_or]
      refine ⟨?_, ?_, ?_, ?_⟩ <;> (intro z; subst z; revert this; simp [Nat.not_lt])
    · show s1.heap.objs.size ≤ h'.objs.size
      rw [hsz]
      exact Nat.le_add_right _ _
  · exact Calls.spliced_nil (mid_dict hc m)
end
end PDZ
namespace PD
open PySem PySem.Spec L2
open PyProof.Rows hiding St
def kDs : List D → Option (List Key)
  | [] => some []
  | d :: r => (kD d).bind fun k => (kDs r).map fun l => k :: l
def fDZip (f g : FE) : S → R Ent := fun s => (f s).bind fun a s => (g s).bind fun b s => match a, b with
  | .tuple ds, .tuple ys => (R.of (kDs ds) s).bind fun ks s => .ok (.dic (mergeKD [] (ks.zip ys))) s
  | _, _ => .bad
section
variable {K : PySem.W.Frag} {G : Hp}
theorem kDs_of : ∀ {ds : List D} {xs : List V} {ks : List Key}, DpAll K G xs ds → kDs ds = some ks → xs = ks.map kV
  | [], _, _, h, e => by cases h; cases e; rfl
  | d :: ds, _, _, h, e => by
    cases h with
    | cons h1 h2 =>
      rw [kDs] at e
      cases z : kD d with
      | none => rw [z] at e; cases e
      | some k =>
        rw [z, Option.bind_some] at e
        cases z2 : kDs ds with
        | none => rw [z2] at e; cases e
        | some l =>
          rw [z2] at e
          cases e
          rw [kV_of h1 z, kDs_of h2 z2, List.map_cons]
theorem zip_pr : ∀ {ks : List Key} {ys : List V} {ds : List D}, DpAll K G ys ds → PrAll K G (ks.zip ys) (ks.zip ds)
  | [], _, _, _ => by rw [List.zip_nil_left, List.zip_nil_left]; exact .nil
  | _ :: _, _, _, .nil => .nil
  | k :: ks, _, _, .cons h t => .cons h (zip_pr (ks := ks) t)
end
section
variable {X : Cx} {ex : ExT} {W : WX}
theorem nDZip {e e2 : Expr} {f g : FE} {p p2 pos pos2 : Pos} (hc : X.calm = true) (hm : X.mg "zip" = none) (hm2 : X.mg "dict" = none) (he : PE X e (tE X.K ex W f)) (he2 : PE X e2 (tE X.K ex W g)) (hg : Gl X "zip" := by rfl) (hg2 : Gl X "dict" := by rfl)
    (hs : starEach [e, e2] X.env = (false, eval e X.env) :: starEach [e2] X.env := by rfl) (hs1 : starEach [e2] X.env = (false, eval e2 X.env) :: starEach [] X.env := by rfl) (hpl : (backTo pos2 (starEach [e2] X.env)).any (·.1) = false := by rfl)
    (hs2 : starEach [.Call (.Name "zip" p2) [e, e2] [] pos2] X.env = (false, eval (.Call (.Name "zip" p2) [e, e2] [] pos2) X.env) :: starEach [] X.env := by rfl) (hpl2 : (backTo pos (starEach [] X.env)).any (·.1) = false := by rfl) :
    PE X (.Call (.Name "dict" p) [.Call (.Name "zip" p2) [e, e2] [] pos2] [] pos) (tN X.K ex W (fDZip f g)) :=
  PE.imp (PDZ.pe_dictzip hc hm hm2 (pa_cons he (pa_cons he2 pa_nil hs1) hs) hg hg2 hs hpl hs2 hpl2) fun σ H Q ⟨_, _, _, r, q⟩ => inE r q fun da s1 G1 H1 v1 e1 r1 hv1 q1 => inE r1 q1 fun db s2 G2 H2 v2 e2' r2 hv2 q2 => by
    replace hv1 := hv1.up e2'
    split at q2
    · rename_i ds ys
      cases hv1 with
      | tup a1 a2 =>
        cases hv2 with
        | tup b1 b2 =>
          cases z : kDs ds with
          | none => rw [z] at q2; exact q2.elim
          | some ks =>
            rw [z] at q2
            have ek := kDs_of a2 z
            subst ek
            refine ⟨_, _, ks, _, rfl, sqT_mono r2.b.sub a1, sqT_mono r2.b.sub b1, fun p' hp => ?_⟩
            obtain ⟨r3, g3, h03, w3, n3⟩ := r2.newOb (ho := .dK (mergeK [] (ks.zip _))) hp
            exact q2 G2 _ (Same.refl _) r3 _ ⟨⟨p', _, rfl, g3, h03, w3, upd_same, _, rfl, PrAll.merge (zip_pr b2) .nil⟩, rfl, n3⟩
    · exact q2.elim
end
end PD
/-! PD25: borrowing calls whose results are tuples. -/
namespace PD
open PySem PySem.Spec L2
open PyProof.Rows hiding St
mutual
/-- atoms, and tuples of such -/
def tupD : D → Bool
  | .none => true
  | .bool _ => true
  | .int _ => true
  | .str _ => true
  | .tuple ds => tupDs ds
  | _ => false
def tupDs : List D → Bool
  | [] => true
  | d :: ds => tupD d && tupDs ds
end
/-- G, and the tuples of H -/
def tupG (G H : Hp) : Hp := fun a => match G a with
  | some o => some o
  | none => match H a with
    | some o => if mutO o = true then none else some o
    | none => none
theorem tupG_of {G H : Hp} {a : Addr} {o : HO} (e : G a = some o) : tupG G H a = some o := by unfold tupG; rw [e]
theorem tupG_tup {G H : Hp} {a : Addr} {o : HO} (s : Same G H) (e : H a = some o) (m : mutO o = false) : tupG G H a = some o := by
  unfold tupG
  cases g : G a with
  | some o' =>
    have := s a o' g
    rw [e] at this
    cases this
    rfl
  | none =>
    dsimp only
    rw [e]
    exact if_neg (by rw [m]; exact Bool.false_ne_true)
theorem tupG_some {G H : Hp} {a : Addr} {o : HO} (e : tupG G H a = some o) : G a = some o ∨ (H a = some o ∧ mutO o = false) := by
  unfold tupG at e
  split at e
  · rename_i g
    cases e
    exact .inl g
  · split at e
    · rename_i o' h
      by_cases m : mutO o' = true
      · rw [if_pos m] at e
        cases e
      · rw [if_neg m] at e
        cases e
        exact .inr ⟨h, Bool.eq_false_iff.mpr m⟩
    · cases e
theorem tupG_none {G H : Hp} {a : Addr} {o : HO} (g : G a = none) (h : H a = some o) (m : mutO o = true) : tupG G H a = none := by
  unfold tupG
  rw [g]
  dsimp only
  rw [h]
  exact if_pos m
section
variable {K : PySem.W.Frag} {c : Act} {G G' H H' : Hp} {σ : St} {s : S}
theorem Rel.tups (r : Rel K c G H σ s) : Same G (tupG G H) ∧ Rel K c (tupG G H) H σ s := by
  have sm : Same G (tupG G H) := fun a o e => tupG_of e
  refine ⟨sm, ⟨⟨fun a o e => ?_, r.b.wl, ?_, sm.seq r.b.scr, r.b.g0.trans sm, r.b.h0, fun a o e m n => ?_, fun q hq => let ⟨t, g, h⟩ := r.b.tb q hq; have ⟨ps, z⟩ := TabS.at_ t; ⟨t, tupG_none g z rfl, h⟩, fun a ps z => ?_⟩, r.len, fun i e q => ?_, r.sep⟩⟩
  · rcases tupG_some e with h | ⟨h, _⟩
    · exact r.b.sub a o h
    · exact h
  · exact tupG_none r.b.wf r.b.wl rfl
  · by_cases ha : a = c.wa
    · rw [ha]
      exact tupG_none r.b.wf r.b.wl rfl
    · exact tupG_none (r.b.n0 a o e m n) (r.b.h0 a o e ha) m
  · rcases tupG_some z with h | ⟨_, h1⟩
    · exact r.b.ng a ps h
    · cases h1
  · obtain ⟨v, hv, he⟩ := r.slot i e q
    exact ⟨v, hv, he.up sm fun q' ho h1 h2 h3 h4 m => ⟨h1, tupG_none h2 h1 m⟩⟩
theorem SqT.tups {a : Addr} {xs : List V} (g : Same G' H) (sm : Same G H) (h : SqT K G' a xs) : SqT K (tupG G H) a xs := by
  rcases h with (h | ⟨o, h⟩) | h
  · exact .inl (.inl (tupG_tup sm (g _ _ h) rfl))
  · exact .inl (.inr ⟨o, tupG_tup sm (g _ _ h) rfl⟩)
  · exact .inr h
mutual
theorem dp_tups (g : Same G' H) (sm : Same G H) : ∀ (d : D) (v : V), tupD d = true → Dp K G' v d → Dp K (tupG G H) v d
  | .none, _, _, h => by cases h; exact .non
  | .bool _, _, _, h => by cases h; exact .bl _
  | .int _, _, _, h => by cases h; exact .int _
  | .str _, _, _, h => by cases h; exact .str _
  | .tuple ds, _, t, h => by
    cases h with
    | tup h1 h2 => exact .tup (SqT.tups g sm h1) (dps_tups g sm ds _ (by rw [tupD] at t; exact t) h2)
theorem dps_tups (g : Same G' H) (sm : Same G H) : ∀ (ds : List D) (vs : List V), tupDs ds = true → DpAll K G' vs ds → DpAll K (tupG G H) vs ds
  | [], _, _, h => by cases h; exact .nil
  | d :: ds, _, t, h => by
    rw [tupDs, Bool.and_eq_true] at t
    cases h with
    | cons h1 h2 => exact .cons (dp_tups g sm d _ t.1 h1) (dps_tups g sm ds _ t.2 h2)
end
end
end PD
namespace PD
open PySem PySem.Spec L2
open PyProof.Rows hiding St
/-- f(..), what grows is lent; the result: atoms and tuples -/
def fCallT (n : Nat) (sem : Sem') (f : FBs) : FE := fun s => match f s with
  | none => .bad
  | some ds => if ds.length = n then
      match sem ds s.w with
      | .ret d w => if tupD d = true then .ok d { s with w := ⟨s.w.ns, w.k⟩ } else .bad
      | _ => .bad
    else .bad
/-- name[k], lent -/
def bIx (i : Nat) (f : FB) : FB := fun s => (f s).bind fun k => match look s i with
  | some (.dict es) => (kesD es).bind fun m => (kD k).bind fun k => lkD m k
  | _ => none
section
variable {X : Cx} {ex : ExT} {W : WX}
theorem eBorIx (i : Nat) {k : Nat} {x : Str} {b : Expr} {f : FB} {p pos : Pos} (hr : Room k X.A) (hb : PE X b (tB X.K f)) (hN : X.N[i]? = some x := by rfl) (hv : Vis X.env.scope x := by first | exact Or.inl rfl | exact Or.inr (Or.inl rfl) | exact Or.inr (Or.inr rfl))
    (hd : (x == ("__debug__" : Str)) = false := by decide) (hcd : (x == ("__classdict__" : Str)) = false := by decide) (hns : NoSl b := by exact fun _ _ => rfl) : PE X (.Subscript (.Name x p) b pos) (tB X.K (bIx i f)) :=
  PE.imp (pe_dget (hu1 hr) (pe_var (i := i) hN hv hd hcd) hb hns) fun σ H Q ⟨c, G, s, d, r, h, q⟩ => by
    unfold bIx at h
    cases hf : f s with
    | none => rw [hf] at h; cases h
    | some kd =>
      rw [hf, Option.bind_some] at h
      split at h
      · rename_i es hl
        obtain ⟨a, kvs, m, q1, q2, q3, q4⟩ := r.lookD hl
        rw [q3, Option.bind_some] at h
        cases kz : kD kd with
        | none => rw [kz] at h; cases h
        | some key =>
          rw [kz, Option.bind_some] at h
          obtain ⟨w, hw, hwd⟩ := (q4.find key).1 d h
          refine ⟨_, q1, c, G, s, kd, r, hf, fun v hv => ?_⟩
          have ev := kV_of hv kz
          subst ev
          refine ⟨a, w, rfl, ?_, q w (hwd.up r.toStar)⟩
          rw [← hw]
          exact .inl ⟨kvs, key, .inl q2, rfl, rfl⟩
      · cases h
theorem eCallT {k n : Nat} {x : Str} {sem : Sem'} {e : Expr} {es : List Expr} {f : FBs} {p pos : Pos} (F : FnD X.prog X.w X.K X.mg X.base ex k x false n sem) (hr : Room k X.A) (tk : Takes X W) (ha : PA X (e :: es) (tBs X.K f)) (hg : Gl X x := by rfl)
    (hdb : (x == ("__debug__" : Str)) = false := by decide) (he : starEach (e :: es) X.env = (false, eval e X.env) :: starEach es X.env := by rfl) (hpl : (backTo pos (starEach es X.env)).any (·.1) = false := by rfl) :
    PE X (.Call (.Name x p) (e :: es) [] pos) (tE X.K ex W (fCallT n sem f)) := by
  obtain ⟨fa, fd, ps, ok, hm, hk, hb⟩ := F.ex
  refine PE.imp (pe_callS ok hr hg hm hk hb (fun σ => passAt tk σ) ha hdb he hpl) fun σ H Q ⟨c, G, s, r, q⟩ => ?_
  unfold fCallT at q
  cases hf : f s with
  | none => rw [hf] at q; exact q.elim
  | some ds =>
    rw [hf] at q
    dsimp only at q
    by_cases hl : ds.length = n
    · rw [if_pos hl] at q
      refine ⟨c, G, s, ds, r, hf, fun vs hvs => ⟨c.wa, c.sc, star c H, s.w, ds, vs, r.baseStar, rfl, hl, hvs, ?_⟩⟩
      cases z : sem ds s.w with
      | ret d w' =>
        rw [z] at q
        dsimp only at q
        by_cases hd : tupD d = true
        · rw [if_pos hd] at q
          intro v G' H' b hvd
          obtain ⟨sm, r2⟩ := (r.back b).tups
          exact q _ H' sm r2 v (dp_tups b.sub (r.back b).b.sub d v hd hvd)
        · rw [if_neg hd] at q
          exact q.elim
      | exc k as w' =>
        rw [z] at q
        exact q.elim
      | bad =>
        rw [z] at q
        exact q.elim
    · rw [if_neg hl] at q
      exact q.elim
end
end PD
/-! PD26: a chooser of gates: an instance that holds a list and a dict of its own whose keys are three ints. -/
namespace Cho
open PySem PySem.Spec L2 PD
open PyProof.Rows hiding St
abbrev T3 := Int × Int × Int
def k3 (t : T3) : List Key := [.inl t.1, .inl t.2.1, .inl t.2.2]
def knownV : Int → List T3 → List (List Key × V)
  | _, [] => []
  | b, t :: r => (k3 t, .int b) :: knownV (b + 1) r
def lk3 : Int → List T3 → T3 → Option Int
  | _, [], _ => none
  | b, t :: r, k => if t = k then some b else lk3 (b + 1) r k
def eight : List Int := [0, 0, 1, 1, 0, 1, 0, 1]
def gateD (t : T3) : D := .tuple [.tuple [.int t.1, .int t.2.1, .int t.2.2], .tuple [.int 0, .int 0, .int 1, .int 1, .int 0, .int 1, .int 0, .int 1]]
/-- the signal of a function of n bits, by its words; the gates behind it -/
def put3 (many : Int) : Nat → List Int → List T3 → Int × List T3
  | 0, ws, ks => (ws.headD 0, ks)
  | n + 1, ws, ks =>
    let p := put3 many n (ws.take (2 ^ n)) ks
    let q := put3 many n (ws.drop (2 ^ n)) p.2
    if p.1 = q.1 then (p.1, q.2) else
      match lk3 (2 + many) q.2 (2 + many - ((n : Int) + 1), p.1, q.1) with
      | some v => (v, q.2)
      | none => (2 + many + (q.2.length : Int), q.2 ++ [(2 + many - ((n : Int) + 1), p.1, q.1)])
theorem k3_inj {s t : T3} (h : k3 s = k3 t) : s = t := by
  unfold k3 at h
  simp only [List.cons.injEq, Sum.inl.injEq, and_true] at h
  obtain ⟨h1, h2, h3⟩ := h
  exact Prod.ext h1 (Prod.ext h2 h3)
theorem valV_known (t : T3) : ∀ (ks : List T3) (b : Int), valV (knownV b ks) (k3 t) = (lk3 b ks t).map V.int
  | [], _ => rfl
  | s :: r, b => by
    unfold knownV lk3
    by_cases h : s = t
    · rw [if_pos h, valV_pos (p := (k3 s, V.int b)) (by rw [h])]
      rfl
    · rw [if_neg h, valV_neg (p := (k3 s, V.int b)) (fun z => h (k3_inj z))]
      exact valV_known t r (b + 1)
theorem knownV_len : ∀ (ks : List T3) (b : Int), (knownV b ks).length = ks.length
  | [], _ => rfl
  | _ :: r, b => by rw [knownV, List.length_cons, knownV_len r, List.length_cons]
theorem knownV_app (t : T3) : ∀ (ks : List T3) (b : Int), knownV b (ks ++ [t]) = knownV b ks ++ [(k3 t, .int (b + (ks.length : Int)))]
  | [], b => by simp [knownV]
  | s :: r, b => by
    rw [List.cons_append, knownV, knownV_app t r (b + 1), knownV, List.cons_append, List.length_cons]
    congr 5
    omega
theorem lk3_snoc {t : T3} : ∀ {ks : List T3} {b : Int}, lk3 b ks t = none → lk3 b (ks ++ [t]) t = some (b + (ks.length : Int))
  | [], b, _ => by simp [lk3]
  | s :: r, b, h => by
    unfold lk3 at h
    by_cases e : s = t
    · rw [if_pos e] at h; cases h
    · rw [if_neg e] at h
      rw [List.cons_append, lk3, if_neg e, lk3_snoc h, List.length_cons]
      congr 1
      omega
theorem put3_len (many : Int) : ∀ (n : Nat) (ws : List Int) (ks : List T3), (put3 many n ws ks).2.length + 1 ≤ ks.length + 2 ^ n
  | 0, ws, ks => by rw [put3]; simp
  | n + 1, ws, ks => by
    have h1 := put3_len many n (ws.take (2 ^ n)) ks
    have h2 := put3_len many n (ws.drop (2 ^ n)) (put3 many n (ws.take (2 ^ n)) ks).2
    have e : 2 ^ (n + 1) = 2 ^ n + 2 ^ n := by rw [Nat.pow_succ]; omega
    have hp : 0 < 2 ^ n := Nat.pow_pos (by decide)
    rw [put3]
    split
    · dsimp only; omega
    · split
      · dsimp only; omega
      · dsimp only
        rw [List.length_append, List.length_singleton]
        omega
theorem put3_mono (many : Int) : ∀ (n : Nat) (ws : List Int) (ks : List T3), ks.length ≤ (put3 many n ws ks).2.length
  | 0, ws, ks => Nat.le_refl _
  | n + 1, ws, ks => by
    have h1 := put3_mono many n (ws.take (2 ^ n)) ks
    have h2 := put3_mono many n (ws.drop (2 ^ n)) (put3 many n (ws.take (2 ^ n)) ks).2
    rw [put3]
    split
    · dsimp only; omega
    · split
      · dsimp only; omega
      · dsimp only
        rw [List.length_append, List.length_singleton]
        omega
/-! ### the tuples of a heap -/
def tupO (H : Hp) : Hp := tupG (fun _ => none) H
theorem tupO_of {H : Hp} {a : Addr} {o : HO} (e : H a = some o) (m : mutO o = false) : tupO H a = some o := by
  unfold tupO tupG
  dsimp only
  rw [e]
  exact if_neg (by rw [m]; exact Bool.false_ne_true)
theorem tupO_some {H : Hp} {a : Addr} {o : HO} (e : tupO H a = some o) : H a = some o ∧ mutO o = false := by
  rcases tupG_some e with h | h
  · cases h
  · exact h
theorem tupO_same {H H' : Hp} (h : ∀ a o, H a = some o → mutO o = false → H' a = some o) : Same (tupO H) (tupO H') := fun a o e => by
  obtain ⟨e1, m⟩ := tupO_some e
  exact tupO_of (h a o e1 m) m
section
variable {K : PySem.W.Frag} {C x dx g k p : Addr} {many : Int} {H H' : Hp} {gvs : List V} {ks : List T3} {gs : List D} {kvs : List (List Key × V)}
/-- an instance at x, its list at g, its dict at k -/
structure Cz (K : PySem.W.Frag) (C : Addr) (many : Int) (H : Hp) (x dx g k : Addr) (gvs : List V) (gs : List D) (kvs : List (List Key × V)) : Prop where
  ins : H x = some (.ins C dx [("many", .int many), ("gates", .ref g), ("known", .ref k)])
  gt : H g = some (.lst gvs)
  gd : PD.DpAll K (tupO H) gvs gs
  kn : H k = some (.dT kvs)
/-- the chooser -/
abbrev Cw (K : PySem.W.Frag) (C : Addr) (many : Int) (H : Hp) (x dx g k : Addr) (gvs : List V) (ks : List T3) : Prop := Cz K C many H x dx g k gvs (ks.map gateD) (knownV (2 + many) ks)
theorem Cz.ext (c : Cz K C many H x dx g k gvs gs kvs) (h : Same H H') : Cz K C many H' x dx g k gvs gs kvs :=
  ⟨h _ _ c.ins, h _ _ c.gt, c.gd.up (tupO_same fun a o e _ => h a o e), h _ _ c.kn⟩
theorem Cz.gk (c : Cz K C many H x dx g k gvs gs kvs) : g ≠ k := fun e => by
  have := c.gt
  rw [e, c.kn] at this
  cases this
theorem Cz.gx (c : Cz K C many H x dx g k gvs gs kvs) : x ≠ g := fun e => by
  have := c.ins
  rw [e, c.gt] at this
  cases this
theorem Cz.kx (c : Cz K C many H x dx g k gvs gs kvs) : x ≠ k := fun e => by
  have := c.ins
  rw [e, c.kn] at this
  cases this
theorem Cz.glen (c : Cw K C many H x dx g k gvs ks) : gvs.length = ks.length := by
  rw [c.gd.len, List.length_map]
theorem tupO_upd {o o' : HO} (e : H p = some o) (m : mutO o = true) : Same (tupO H) (tupO (upd H p o')) := tupO_same fun a u ea mu => by
  rw [upd_ne fun z => by rw [z, e] at ea; cases ea; rw [m] at mu; cases mu]
  exact ea
theorem Cz.new (c : Cz K C many H x dx g k gvs gs kvs) (hp : H p = none) {o : HO} : Cz K C many (upd H p o) x dx g k gvs gs kvs := c.ext (same_upd hp)
theorem Cz.setK (c : Cz K C many H x dx g k gvs gs kvs) (kvs' : List (List Key × V)) : Cz K C many (upd H k (.dT kvs')) x dx g k gvs gs kvs' :=
  ⟨(upd_ne c.kx).trans c.ins, (upd_ne c.gk).trans c.gt, c.gd.up (tupO_upd c.kn rfl), upd_same⟩
theorem Cz.setG (c : Cz K C many H x dx g k gvs gs kvs) {v : V} {d : D} (h : PD.Dp K (tupO H) v d) : Cz K C many (upd H g (.lst (gvs ++ [v]))) x dx g k (gvs ++ [v]) (gs ++ [d]) kvs :=
  ⟨(upd_ne c.gx).trans c.ins, upd_same, (c.gd.app (.cons h .nil)).up (tupO_upd c.gt rfl), (upd_ne (Ne.symm c.gk)).trans c.kn⟩
theorem Cz.other (c : Cz K C many H x dx g k gvs gs kvs) {o o' : HO} (hp : H p = some o) (m : mutO o = true) (nx : p ≠ x) (ng : p ≠ g) (nk : p ≠ k) : Cz K C many (upd H p o') x dx g k gvs gs kvs :=
  ⟨(upd_ne (Ne.symm nx)).trans c.ins, (upd_ne (Ne.symm ng)).trans c.gt, c.gd.up (tupO_upd hp m), (upd_ne (Ne.symm nk)).trans c.kn⟩
/-- all but the list and the dict stands -/
def ExtB (g k : Addr) (H H' : Hp) : Prop := ∀ a o, H a = some o → a ≠ g → a ≠ k → H' a = some o
theorem ExtB.refl : ExtB g k H H := fun _ _ e _ _ => e
theorem ExtB.same (h : Same H H') : ExtB g k H H' := fun a o e _ _ => h a o e
theorem ExtB.new (hp : H p = none) {o : HO} : ExtB g k H (upd H p o) := .same (same_upd hp)
theorem ExtB.setG {o : HO} : ExtB g k H (upd H g o) := fun _ _ e n _ => (upd_ne n).trans e
theorem ExtB.setK {o : HO} : ExtB g k H (upd H k o) := fun _ _ e _ n => (upd_ne n).trans e
theorem ExtB.trans {H'' : Hp} (h : ExtB g k H H') (h' : ExtB g k H' H'') : ExtB g k H H'' := fun a o e n m => h' a o (h a o e n m) n m
theorem ExtB.tup (h : ExtB g k H H') (c : Cz K C many H x dx g k gvs gs kvs) {a : Addr} {o : HO} (e : H a = some o) (m : mutO o = false) : H' a = some o := by
  refine h a _ e (fun z => ?_) fun z => ?_
  · rw [z, c.gt] at e
    cases e
    cases m
  · rw [z, c.kn] at e
    cases e
    cases m
theorem ExtB.seq (h : ExtB g k H H') (c : Cz K C many H x dx g k gvs gs kvs) {a : Addr} {xs : List V} (q : SqT K H a xs) : SqT K H' a xs := by
  rcases q with (q | ⟨o, q⟩) | q
  · exact .inl (.inl (h.tup c q rfl))
  · exact .inl (.inr ⟨o, h.tup c q rfl⟩)
  · exact .inr q
theorem known_put {t : T3} (hn : lk3 (2 + many) ks t = none) : L2.putK (knownV (2 + many) ks) (k3 t) (.int (2 + many + (ks.length : Int))) = knownV (2 + many) (ks ++ [t]) := by
  rw [putK_new _ (by rw [valV_known, hn]; rfl), knownV_app]
theorem cut_lo {ws : List Int} {n : Nat} (h : n ≤ ws.length) : cutV (ws.map V.int) none (some (n : Int)) = (ws.take n).map V.int := by
  unfold cutV
  rw [HT.sIx_none, HT.sIx_nat, List.length_map, Nat.min_eq_left h, Nat.sub_zero, List.drop_zero, List.map_take]
theorem cut_hi {ws : List Int} {n : Nat} (h : n ≤ ws.length) : cutV (ws.map V.int) (some (n : Int)) none = (ws.drop n).map V.int := by
  unfold cutV
  rw [HT.sIx_none, HT.sIx_nat, List.length_map, Nat.min_eq_left h, List.map_drop]
  exact List.take_of_length_le (by simp)
theorem bits_pow (n : Nat) : Builtin.Int.intBits ((2 ^ n : Nat) : Int) = n + 1 := by
  have hp : 0 < 2 ^ n := Nat.pow_pos (by decide)
  have h0 : ¬ (((2 ^ n : Nat) : Int) == 0) = true := fun z => by
    have z : ((2 ^ n : Nat) : Int) = 0 := by simpa using z
    omega
  unfold Builtin.Int.intBits
  rw [if_neg h0, Int.natAbs_natCast, Nat.log2_two_pow]
end
end Cho
/-! PD27: name = {k: v for ..} on one line, the name a local. -/
namespace PD
open PySem PySem.Spec L2
open PyProof.Rows hiding St
section
variable {X : Cx}
theorem ps_dcU {i : Nat} {y : Str} {py : Pos} {kx vx tg iter : Expr} {ifs : List Expr} {sco : Scope} {own : List (Str × Nat)} {pos spos : Pos} {wi : TI} {gg : TG} {tt : TT} {tk tv : TE} (hc : X.calm = true) (hN : X.N.Nodup) (hy : X.N[i]? = some y) (hyl : X.env.scope.names.lookup y = some .local)
    (hsw : swapsWith (.DictComp kx vx [⟨tg, iter, ifs, 0⟩] sco pos) (some (.Name y py)) spos.line X.env = pure true) (hi : PI X tg iter wi) (okb : BlkOk X.N X.env.scope sco own)
    (hgg : ∀ (z : Shared) (H : Hp) (C : Addr) (cl : List (Str × Addr)) (fp : List Addr), PG (X.blk z H sco (compEnvC sco cl C X.env) fp) tg gg) (htt : ∀ (z : Shared) (H : Hp) (C : Addr) (cl : List (Str × Addr)) (fp : List Addr), PTs (X.blk z H sco (compEnvC sco cl C X.env) fp) ifs tt)
    (hkk : ∀ (z : Shared) (H : Hp) (C : Addr) (cl : List (Str × Addr)) (fp : List Addr), PE (X.blk z H sco (compEnvC sco cl C X.env) fp) kx tk)
    (hvv : ∀ (z : Shared) (H : Hp) (C : Addr) (cl : List (Str × Addr)) (fp : List Addr), PE (X.blk z H sco (compEnvC sco cl C X.env) fp) vx tv) (hs : ∀ x, foldedSetIterable iter X.env x = pure x := by intro _; rfl) :
    PS X (.Assign [.Name y py] (.DictComp kx vx [⟨tg, iter, ifs, 0⟩] sco pos) spos) (tAsg (tDc wi gg tt tk tv (own.map (·.2))) (gName i)) := by
  refine ⟨fun pins s σ H En I h => ?_⟩
  rw [exec_Assign_Name_used _ _ _ _ hsw]
  refine wpAny_bind (wpAny_standAt (wpAny_bind ?_))
  have h' : tDc wi gg tt tk tv (own.map (·.2)) σ H (fun z H1 => gName i z σ H1 En.nx) := h
  have core := fun pp => dc_core (pos := pos) (pos' := pp) (use := some (assign (.Name y py) X.env)) (Qf := fun _ s' => SP X pins En .next s') hc hN I hi okb hgg htt hkk hvv hs h' fun D C s1 m H1 I1 q hn f => by
    obtain ⟨f0, f1, f2, f3, f4, f5⟩ := f
    show wpAny _ _ (assign (.Name y py) X.env (.ref D)) _ _ _
    refine wpAny_assign_Name (store_ok2 (v := V.ref D) I1 hN hy (.inl hyl) rfl (fun s2 I2 ⟨a, sb, ha⟩ => ?_) (.inr hyl))
    have apart : C ≠ a := ha.elim (fun z => by rw [z]; exact f1) fun z e => f4 y a z e.symm
    exact ⟨m, hn.sameBut sb apart, fun h3 sb3 => ⟨_, H1, I2.turned (t' := s2.toks) (fun b o hb e => (sb3.2 b hb).trans e) f0 f1 f3 f4 f5, q⟩⟩
  show wpAny _ X.A (do let _ ← comprehension (.DictComp kx vx [⟨tg, iter, ifs, 0⟩] sco pos) sco X.env (firstIterPos [⟨tg, iter, ifs, 0⟩] pos) newDict false (eval iter X.env) (some (assign (.Name y py) X.env))) _ _ s
  exact wpAny_bind (thn (core _) fun _ s1 hq => wpAny_pure (wpAny_pure hq))
theorem sw_trueD {kx vx : Expr} {gs : List Comprehension} {sco : Scope} {pos py : Pos} {y : Str} {l : Nat} {env : Env} (hk : env.scope.kind = .function) (hy : env.scope.names.lookup y = some .local) (hl : (py.line == pos.line) = true)
    (ha : (sco.names.any fun (n, k) => n == y && (k == .local || k == .cell)) = false) : swapsWith (.DictComp kx vx gs sco pos) (some (.Name y py)) l env = pure true := by
  have k1 : env.kindOf y = some .local := hy
  have k2 : env.blockKind = .function := by unfold Env.blockKind; rw [hk]; rfl
  unfold swapsWith
  simp only [k2, k1, ha, Expr.pos, hl]
  rfl
variable {ex : ExT} {W : WX}
theorem kSetDc {i : Nat} {y : Str} {py : Pos} {kx vx tg iter : Expr} {ifs : List Expr} {scope : Scope} {own : List (Str × Nat)} {pos spos : Pos} {l : List Nat} {fi : FA} {fg : FG} {ft : FT} {fk fv : FE} (hc : X.calm = true) (hN : X.N.Nodup) (hi : PI X tg iter (tI X.K ex W fi)) (ok : BlkOk X.N X.env.scope scope own)
    (hg : ∀ (s : Shared) (H : Hp) (C : Addr) (cl : List (Str × Addr)) (fp : List Addr), PG (X.blk s H scope (compEnvC scope cl C X.env) fp) tg (tG X.K l fg)) (ht : ∀ (s : Shared) (H : Hp) (C : Addr) (cl : List (Str × Addr)) (fp : List Addr), PTs (X.blk s H scope (compEnvC scope cl C X.env) fp) ifs (tT X.K ex W0 ft))
    (hk : ∀ (s : Shared) (H : Hp) (C : Addr) (cl : List (Str × Addr)) (fp : List Addr), PE (X.blk s H scope (compEnvC scope cl C X.env) fp) kx (tE X.K ex W0 fk))
    (he : ∀ (s : Shared) (H : Hp) (C : Addr) (cl : List (Str × Addr)) (fp : List Addr), PE (X.blk s H scope (compEnvC scope cl C X.env) fp) vx (tE X.K ex W0 fv)) (hy : X.N[i]? = some y := by rfl) (hyl : X.env.scope.names.lookup y = some .local := by rfl)
    (hsw : swapsWith (.DictComp kx vx [⟨tg, iter, ifs, 0⟩] scope pos) (some (.Name y py)) spos.line X.env = pure true := by exact sw_trueD rfl rfl rfl (by decide +kernel)) (hl : ∀ i ∈ l, i ∈ own.map (·.2) := by decide) (hs : ∀ x, foldedSetIterable iter X.env x = pure x := by intro _; rfl) :
    PS X (.Assign [.Name y py] (.DictComp kx vx [⟨tg, iter, ifs, 0⟩] scope pos) spos) (tS X.K ex W (sSetN i (fDComp (own.map (·.2)) fi fg ft fk fv))) :=
  PS.imp (ps_dcU hc hN hy hyl hsw hi ok hg ht hk he hs) fun En σ H ⟨c, G, s, r, h⟩ => by
    have h2 : Post X.K ex W c G σ (fun e G' H' s' => ∀ v, FreshE X.K c G' H' σ s' v e → En.nx (σ.set i (some v)) H') (fDComp (own.map (·.2)) fi fg ft fk fv s) :=
      PostO.fromR h fun e s' G' H' e' r' h' v hv => h' _ G' H' (Same.refl _) (r'.put i hv.1 fun _ j _ hj => hv.2.2 j hj)
    exact ⟨c, G, s, r, Post.seq h2 fun ds s1 G1 H1 e1 r1 h1 J wk Dd hD => dc_read (Q := fun v H' => En.nx (σ.set i (some v)) H') hl wk r1 hD h1⟩
end
end PD
/-! printed by gen.py -/
namespace Lk17
open PySem PySem.Spec L2 PD
open PyProof.Rows hiding St
def topS (i : Nat) : Stmt := PySem.Challenge.pw_beatscan_k17_gathered.main.body.getD i (.Pass ⟨0, 0, 0, 0⟩)
def initOf : Stmt → Stmt
  | .ClassDef _ _ _ b _ _ _ _ _ _ _ => b.getD 0 (.Pass ⟨0, 0, 0, 0⟩)
  | s => s
section
open PySem.Calls
abbrev si_BadNet : Stmt := initOf (topS 2)
def xA_BadNet (p0 p1 p2 : Pos) : Arguments := { posonlyargs := [], args := [{ arg := "self", annotation := none, pos := p0 }, { arg := "at", annotation := none, pos := p1 }, { arg := "why", annotation := none, pos := p2 }], vararg := none, kwonlyargs := [], kw_defaults := [], kwarg := none, defaults := [] }
def xB_BadNet (q0a q0b q0c q0d q1a q1b q1c q1d : Pos) : List Stmt := [.Assign [.Attribute (.Name "self" q0a) "at" q0b] (.Name "at" q0c) q0d, .Assign [.Attribute (.Name "self" q1a) "why" q1b] (.Name "why" q1c) q1d]
def xS_BadNet : Scope := { kind := .function, names := [(PySem.Str.ofString "self", .local), (PySem.Str.ofString "at", .local), (PySem.Str.ofString "why", .local)], isGenerator := false, isCoroutine := false, more := [] }
theorem xi_BadNet {K : PySem.W.Frag} {C fI : Addr} (hov : PySem.W.excOver K C ESX.exTail = true) (sa : PySem.W.findIn K (.ref C) "__setattr__" = some (some (.builtin "object.__setattr__"))) (hh : PySem.W.hasDictIn K C = true)
    (t0 : PySem.W.findIn K (.ref C) "at" = some none)
    (t1 : PySem.W.findIn K (.ref C) "why" = some none)
    (fn : ∃ (oc : Value) (od : Option Addr) (doc pm : Value) (an : Option Addr) (cdv ct : Value) (osl : Array (Option Value)) (p0 p1 p2 q0a q0b q0c q0d q1a q1b q1c q1d : Pos), K.lookup fI = some ⟨oc, od, .func (PySem.W.fnOf "__init__" "BadNet.__init__" (xA_BadNet p0 p1 p2) (xB_BadNet q0a q0b q0c q0d q1a q1b q1c q1d) xS_BadNet .none .none doc pm an cdv ct), osl⟩ ∧ PySem.W.codeIn K cdv "BadNet.__init__" = true) :
    InitOk K C fI ["at", "why"] := by
  intro prog w A R s x b0 us hl X hlim hx hnx hroom hq
  obtain ⟨oc, od, doc, pm, an, cdv, ct, osl, p0, p1, p2, q0a, q0b, q0c, q0d, q1a, q1b, q1c, q1d, ho, hcd⟩ := fn
  obtain ⟨v0, v1, rfl⟩ : ∃ v0 v1, us = [v0, v1] := by
    match us, hl with
    | [v0, v1], _ => exact ⟨v0, v1, rfl⟩
  refine Att.call_fn (binds := [("self", .ref x), ("at", v0), ("why", v1)]) X hlim ho hcd hroom (BindsTo.of_eq (by first | rfl | with_unfolding_all rfl)) (by first | rfl | decide | with_unfolding_all rfl) (fun s₁ IC => ?_) rfl rfl rfl
  obtain ⟨h₁, tk₁, rfl⟩ := IC.toInCall.same
  have k1 : ∀ b o, s.heap.get? b = some o → h₁.get? b = some o := IC.toInCall.keep
  have hn := IC.toInCall.ns
  have hLx : s.heap.objs.size ≠ x := Nat.ne_of_gt (Heap.lt_size hx)
  have X₁ : K.In h₁ := X.keeps k1
  have hx₁ := k1 _ _ hx
  have z : s.heap.objs.size < h₁.objs.size := hn.lt
  show wpAny _ _ (execs _ _) _ _ _
  refine wpAny_execs_cons (plainObj_wpAny_Assign_Attribute ?_)
  refine ldX (v := v0) hn (by first | rfl | with_unfolding_all rfl | kernel_rfl) (ldX (v := .ref x) hn (by first | rfl | with_unfolding_all rfl | kernel_rfl) ?_)
  refine PySem.W.set_plain X₁ (ox := PySem.HandSPX.excO C b0) (od := none) ⟨hx₁, rfl, rfl, trivial⟩ sa ?_
  refine exSet1 X₁ hx₁ hov hh (takerNo t0) fun h₂ tk₂ dx k2 dn dne hx₂ hn₂ => ?_
  have X₂ : K.In h₂ := fun a o e => k2 a o (fun q => by rw [q, hnx] at e; cases e) (X₁ a o e)
  have hm := hn.at (fun o e => k2 _ o hLx e)
  obtain ⟨oD, esD, epD, hoD, hdD, _⟩ := hn₂.count (Within.cons "at" v0 Within.nil)
  show wpAny _ _ (execs _ _) _ _ _
  refine wpAny_execs_cons (plainObj_wpAny_Assign_Attribute ?_)
  refine ldX (v := v1) hm (by first | rfl | with_unfolding_all rfl | kernel_rfl) (ldX (v := .ref x) hm (by first | rfl | with_unfolding_all rfl | kernel_rfl) ?_)
  refine PySem.W.set_plain X₂ (ox := { PySem.HandSPX.excO C b0 with dict := some dx }) (od := some oD) ⟨hx₂, rfl, rfl, hoD⟩ sa ?_
  refine exSet2 X₂ hx₂ hn₂ (Within.cons "at" v0 Within.nil) (by decide) hov hh (takerNo t1) fun h₃ tk₃ k3 hn₃ => ?_
  show wpAny _ _ (execs _ _) _ _ _
  refine wpAny_execs_nil (hq h₃ tk₃ dx ⟨fun b o hb e => k3 b o (fun q => ?_) (k2 b o hb (k1 b o e)), k3 x _ (Ne.symm dne) hx₂, Nat.le_of_lt (Nat.lt_of_lt_of_le z dn), dne, ?_⟩)
  · exact absurd (Nat.lt_of_lt_of_le (Nat.lt_of_lt_of_le (Heap.lt_size (k1 b o e)) dn) (Nat.le_of_eq q.symm)) (Nat.lt_irrefl _)
  refine Eq.mp (congrArg (Heap.Ns1 h₃ dx) (funext fun y => ?_)) hn₃
  by_cases h2 : y = "why"
  · subst h2; rfl
  · by_cases h1 : y = "at"
    · subst h1; rfl
    · rw [if_neg h2, if_neg h1]
      have e1 : (y == ("at" : Str)) = false := by simpa using h1
      have e2 : (y == ("why" : Str)) = false := by simpa using h2
      show none = List.lookup y [(("at" : Str), v0), (("why" : Str), v1)]
      simp only [List.lookup, e1, e2]
end
structure Bt (mg : Str → Option Value) : Prop where
  all : mg "all" = none
  dict : mg "dict" = none
  enumerate : mg "enumerate" = none
  int : mg "int" = none
  isinstance : mg "isinstance" = none
  len : mg "len" = none
  list : mg "list" = none
  max : mg "max" = none
  range : mg "range" = none
  set : mg "set" = none
  sorted : mg "sorted" = none
  tuple : mg "tuple" = none
  zip : mg "zip" = none
section
variable {P : Program} {w : World} {K : PySem.W.Frag} {mg : Str → Option Value} {base : Heap} {ex : ExT}
abbrev s_value_of : Stmt := topS 4
theorem sc_value_of : FnScope ["told", "values", "signals", "words", "at", "signal"] ["told", "values"] (defScope s_value_of) := ⟨rfl, rfl, rfl, by decide +kernel, rfl, by decide +kernel, by decide +kernel⟩
def f_value_of : FO :=
  sSeq (sAsg (fSlot 0) (gTp 2 (gCo (gNm 2) (gCo (gNm 3) gNo))))
    (sSeq (sAsg (fC (.int 0)) (gNm 4))
    (sSeq (sFor [5] (fIt (fSlot 2)) (gNm 5) (sAsg (fBin dAddX (fBin dMul (fC (.int 2)) (fSlot 4)) (fIxX 1 (fSlot 5))) (gNm 4)))
    (sRet (fIxS 3 (fSlot 4)))))
def sem_value_of : Sem' := semOf 6 false f_value_of
theorem ok_value_of {k : Nat} {f : Addr} {fd : FuncData} (F : Fun K "value_of" "value_of" s_value_of f fd) (b : Binds K fd ["told", "values"] []) (g : mg "value_of" = some (.ref f))  : FnD P w K mg base ex (k + 1) "value_of" false 2 sem_value_of := by
  have Sc := sc_value_of
  exact fnD F Sc (by decide) (by decide) (fun cdv A outer s H E hr => bCons (kAsg (eSlot 0) (gTup rfl (gsCons (gName_ (i := 2) Sc.nd) (gsCons (gName_ (i := 3) Sc.nd) gsNil))))
    (bCons (kSet (i := 4) Sc.nd eInt)
    (bCons (kFor (kl := [5]) (passes_of rfl) rfl (iIt (eSlot 2)) (gName_ (i := 5) Sc.nd) (bOne (kSet (i := 4) Sc.nd (eAddX (eMul eInt (eSlot 4)) (eIxX 1 hr (eSlot 5))))))
    (bOne (kRet (eIxS 3 (eSlot 4))))))) b g
abbrev s_bits_of : Stmt := topS 7
theorem sc_bits_of : FnScope ["number", "many", "at"] ["number", "many"] (defScope s_bits_of) := ⟨rfl, rfl, rfl, by decide +kernel, rfl, by decide +kernel, by decide +kernel⟩
def f_bits_of : FO :=
  sRet (fB1 dTup (fFz (fComp [2] (fR1 (fCons (fSlot 1) fNil)) (gNm 2) fYes (fBin dAnd (fBin dShr (fSlot 0) (fBin dSub (fBin dSub (fSlot 1) (fC (.int 1))) (fSlot 2))) (fC (.int 1))))))
def sem_bits_of : Sem' := semOf 3 false f_bits_of
theorem ok_bits_of {k : Nat} {f : Addr} {fd : FuncData} (F : Fun K "bits_of" "bits_of" s_bits_of f fd) (b : Binds K fd ["number", "many"] []) (g : mg "bits_of" = some (.ref f)) (B : Bt mg) : FnD P w K mg base ex (k + 1) "bits_of" false 2 sem_bits_of := by
  have Sc := sc_bits_of
  exact fnD F Sc (by decide) (by decide) (fun cdv A outer s H E hr => bOne (kRet (eTupF B.tuple (eFz (oComp (own := [("at", 2)]) rfl Sc.nd (iR1 B.range (aCons (eSlot 1) aNil)) (blkOk_by (by kernel_rfl)) (fun _ _ _ _ _ => gName_ (i := 2) Sc.nd) (fun _ _ _ _ _ => tsNil) (fun _ _ _ _ _ => eAndB (eShr (eSlot 0) (eSub (eSub (eSlot 1) eInt) (eSlot 2))) eInt)))))) b g
abbrev s_number_of : Stmt := topS 8
theorem sc_number_of : FnScope ["bits", "found", "bit"] ["bits"] (defScope s_number_of) := ⟨rfl, rfl, rfl, by decide +kernel, rfl, by decide +kernel, by decide +kernel⟩
def f_number_of : FO :=
  sSeq (sAsg (fC (.int 0)) (gNm 1))
    (sSeq (sFor [2] (fIt (fSlot 0)) (gNm 2) (sAsg (fBin dAddX (fBin dMul (fC (.int 2)) (fSlot 1)) (fSlot 2)) (gNm 1)))
    (sRet (fSlot 1)))
def sem_number_of : Sem' := semOf 3 false f_number_of
theorem ok_number_of {k : Nat} {f : Addr} {fd : FuncData} (F : Fun K "number_of" "number_of" s_number_of f fd) (b : Binds K fd ["bits"] []) (g : mg "number_of" = some (.ref f))  : FnD P w K mg base ex (k + 1) "number_of" false 1 sem_number_of := by
  have Sc := sc_number_of
  exact fnD F Sc (by decide) (by decide) (fun cdv A outer s H E hr => bCons (kSet (i := 1) Sc.nd eInt)
    (bCons (kFor (kl := [2]) (passes_of rfl) rfl (iIt (eSlot 0)) (gName_ (i := 2) Sc.nd) (bOne (kSet (i := 1) Sc.nd (eAddX (eMul eInt (eSlot 1)) (eSlot 2)))))
    (bOne (kRet (eSlot 1))))) b g
abbrev s_check_net : Stmt := topS 9
theorem sc_check_net : FnScope ["net", "fan", "inputs", "gates", "outputs", "at", "told", "signal", "word"] ["net", "fan"] (defScope s_check_net) := ⟨rfl, rfl, rfl, by decide +kernel, rfl, by decide +kernel, by decide +kernel⟩
def f_check_net : FO :=
  sSeq (sAsg (fSlot 0) (gTp 3 (gCo (gNm 2) (gCo (gNm 3) (gCo (gNm 4) gNo)))))
    (sSeq (sFor [5, 6] (fEnum (fSlot 3)) (gTp 2 (gCo (gNm 5) (gCo (gNm 6) gNo))) (sSeq (sIf (fOr (fNot (tVal (fB1 (dIsi "tuple") (fSlot 6)))) (fOr (tVal (fBin dNe (fLenS 6) (fC (.int 2)))) (tVal (fBin dGt (fLen (fIxS 6 (fC (.int 0)))) (fSlot 1))))) (sRaise 0 2 (fCons (fSlot 5) (fCons (fC (.str "fan")) fNil))) sNil)
    (sSeq (sIf (fNot (tVal (fB1 dAll (fFz (fComp [7] (fIt (fIxS 6 (fC (.int 0)))) (gNm 7) fYes (fChain dLe dLt (fC (.int 0)) (fSlot 7) (fBin dAddX (fBin dAddX (fC (.int 2)) (fSlot 2)) (fSlot 5)))))))) (sRaise 0 2 (fCons (fSlot 5) (fCons (fC (.str "order")) fNil))) sNil)
    (sIf (fOr (tVal (fBin dNe (fLen (fIxS 6 (fC (.int 1)))) (fBin dShl (fC (.int 1)) (fLen (fIxS 6 (fC (.int 0))))))) (fNot (tVal (fB1 dAll (fFz (fComp [8] (fIt (fIxS 6 (fC (.int 1)))) (gNm 8) fYes (fBin dIn (fSlot 8) (fTup (fCons (fC (.int 0)) (fCons (fC (.int 1)) fNil)))))))))) (sRaise 0 2 (fCons (fSlot 5) (fCons (fC (.str "words")) fNil))) sNil))))
    (sIf (fNot (tVal (fB1 dAll (fFz (fComp [7] (fIt (fSlot 4)) (gNm 7) fYes (fChain dLe dLt (fC (.int 0)) (fSlot 7) (fBin dAddX (fBin dAddX (fC (.int 2)) (fSlot 2)) (fLenS 3)))))))) (sRaise 0 2 (fCons (fLenS 3) (fCons (fC (.str "outputs")) fNil))) sNil))
def sem_check_net : Sem' := semOf 9 false f_check_net
theorem ok_check_net {k : Nat} {f : Addr} {fd : FuncData} (F : Fun K "check_net" "check_net" s_check_net f fd) (b : Binds K fd ["net", "fan"] []) (g : mg "check_net" = some (.ref f)) (B : Bt mg) {C_BadNet fI_BadNet : Addr} (TX_BadNet : XCls K mg "BadNet" C_BadNet fI_BadNet ["at", "why"]) (hex_BadNet : ex 0 = some (C_BadNet, (["at", "why"] : List Str))) : FnD P w K mg base ex (k + 1) "check_net" false 2 sem_check_net := by
  have Sc := sc_check_net
  exact fnD F Sc (by decide) (by decide) (fun cdv A outer s H E hr => bCons (kAsg (eSlot 0) (gTup rfl (gsCons (gName_ (i := 2) Sc.nd) (gsCons (gName_ (i := 3) Sc.nd) (gsCons (gName_ (i := 4) Sc.nd) gsNil)))))
    (bCons (kFor (kl := [5, 6]) (passes_of rfl) rfl (iEnum B.enumerate (eSlot 3)) (gTup rfl (gsCons (gName_ (i := 5) Sc.nd) (gsCons (gName_ (i := 6) Sc.nd) gsNil))) (bCons (kIf (PW.pt (tOrW (tNotT (tOf (eIsi (T := "tuple") (.inl rfl) B.isinstance B.tuple PyProof.Rows.boot_tuple (eSlot 6)))) (tOrW (tNe' hr (eLenS 6 B.len) eInt) (tOr1 (tGt' (eLen B.len (eIxS 6 eInt)) (eSlot 1)))))) (bOne (kRaise (n := 2) rfl (takes_of rfl rfl rfl rfl) TX_BadNet hex_BadNet rfl (by decide) (by decide) hr (aCons (eSlot 5) (aCons eStr aNil)))) bNil)
    (bCons (kIf (tNotT (tOf (eAllF rfl B.all (eFz (oComp (own := [("signal", 7)]) rfl Sc.nd (iIt (eIxS 6 eInt)) (blkOk_by (by kernel_rfl)) (fun _ _ _ _ _ => gName_ (i := 7) Sc.nd) (fun _ _ _ _ _ => tsNil) (fun _ _ _ _ _ => eChain op_le od_le op_lt od_lt eInt (eSlot 7) (eAddX (eAddX eInt (eSlot 2)) (eSlot 5)))))))) (bOne (kRaise (n := 2) rfl (takes_of rfl rfl rfl rfl) TX_BadNet hex_BadNet rfl (by decide) (by decide) hr (aCons (eSlot 5) (aCons eStr aNil)))) bNil)
    (bOne (kIf (PW.pt (tOrW (tNe' hr (eLen B.len (eIxS 6 eInt)) (eShl eInt (eLen B.len (eIxS 6 eInt)))) (tOr1 (tNotT (tOf (eAllF rfl B.all (eFz (oComp (own := [("word", 8)]) rfl Sc.nd (iIt (eIxS 6 eInt)) (blkOk_by (by kernel_rfl)) (fun _ _ _ _ _ => gName_ (i := 8) Sc.nd) (fun _ _ _ _ _ => tsNil) (fun _ _ _ _ _ => eIn hr (eSlot 8) (eTup (aCons eInt (aCons eInt aNil)))))))))))) (bOne (kRaise (n := 2) rfl (takes_of rfl rfl rfl rfl) TX_BadNet hex_BadNet rfl (by decide) (by decide) hr (aCons (eSlot 5) (aCons eStr aNil)))) bNil)))))
    (bOne (kIf (tNotT (tOf (eAllF rfl B.all (eFz (oComp (own := [("signal", 7)]) rfl Sc.nd (iIt (eSlot 4)) (blkOk_by (by kernel_rfl)) (fun _ _ _ _ _ => gName_ (i := 7) Sc.nd) (fun _ _ _ _ _ => tsNil) (fun _ _ _ _ _ => eChain op_le od_le op_lt od_lt eInt (eSlot 7) (eAddX (eAddX eInt (eSlot 2)) (eLenS 3 B.len)))))))) (bOne (kRaise (n := 2) rfl (takes_of rfl rfl rfl rfl) TX_BadNet hex_BadNet rfl (by decide) (by decide) hr (aCons (eLenS 3 B.len) (aCons eStr aNil)))) bNil)))) b g
abbrev s_levels_of : Stmt := topS 10
theorem sc_levels_of : FnScope ["net", "found", "signals", "words", "signal"] ["net"] (defScope s_levels_of) := ⟨rfl, rfl, rfl, by decide +kernel, rfl, by decide +kernel, by decide +kernel⟩
def f_levels_of : FO :=
  sSeq (sSetO 1 (fRepL (fCons (fC (.int 0)) fNil) (fBin dAddX (fC (.int 2)) (fIxS 0 (fC (.int 0))))))
    (sSeq (sFor [2, 3] (fIt (fIxS 0 (fC (.int 1)))) (gTp 2 (gCo (gNm 2) (gCo (gNm 3) gNo))) (sApp 1 (fBin dAddX (fC (.int 1)) (fB1 dMax (fFz (fLim (fCons (fC (.int 0)) (fStar (fFz (fComp [4] (fIt (fSlot 2)) (gNm 4) fYes (fIxS 1 (fSlot 4)))) fNil))))))))
    (sRet (fSlot 1)))
def sem_levels_of : Sem' := semOf 5 false f_levels_of
theorem ok_levels_of {k : Nat} {f : Addr} {fd : FuncData} (F : Fun K "levels_of" "levels_of" s_levels_of f fd) (b : Binds K fd ["net"] []) (g : mg "levels_of" = some (.ref f)) (B : Bt mg) : FnD P w K mg base ex (k + 1) "levels_of" false 1 sem_levels_of := by
  have Sc := sc_levels_of
  exact fnD F Sc (by decide) (by decide) (fun cdv A outer s H E hr => bCons (kSetO (i := 1) Sc.nd (oRepL (aCons eInt aNil) (eAddX eInt (eIxS 0 eInt))))
    (bCons (kFor (kl := [2, 3]) (passes_of rfl) rfl (iIt (eIxS 0 eInt)) (gTup rfl (gsCons (gName_ (i := 2) Sc.nd) (gsCons (gName_ (i := 3) Sc.nd) gsNil))) (bOne (kApp 1 (eAddX eInt (eMaxF rfl B.max (eFz (oLst (aCons eInt (aStar (eFz (oComp (own := [("signal", 4)]) rfl Sc.nd (iIt (eSlot 2)) (blkOk_by (by kernel_rfl)) (fun _ _ _ _ _ => gName_ (i := 4) Sc.nd) (fun _ _ _ _ _ => tsNil) (fun _ _ _ _ _ => eIxS 1 (eSlot 4)))) aNil)))))))))
    (bOne (kRet (eSlot 1))))) b g
abbrev s_uses_of : Stmt := topS 12
theorem sc_uses_of : FnScope ["net", "found", "signals", "words", "signal"] ["net"] (defScope s_uses_of) := ⟨rfl, rfl, rfl, by decide +kernel, rfl, by decide +kernel, by decide +kernel⟩
def f_uses_of : FO :=
  sSeq (sSetO 1 (fRepL (fCons (fC (.int 0)) fNil) (fBin dAddX (fBin dAddX (fC (.int 2)) (fIxS 0 (fC (.int 0)))) (fLen (fIxS 0 (fC (.int 1)))))))
    (sSeq (sFor [2, 3, 4] (fIt (fIxS 0 (fC (.int 1)))) (gTp 2 (gCo (gNm 2) (gCo (gNm 3) gNo))) (sFor [4] (fIt (fSlot 2)) (gNm 4) (sAugIx 1 (fSlot 4) (fC (.int 1)))))
    (sSeq (sFor [] (fIt (fIxS 0 (fC (.int 2)))) (gNm 4) (sAugIx 1 (fSlot 4) (fC (.int 1))))
    (sRet (fSlot 1))))
def sem_uses_of : Sem' := semOf 5 false f_uses_of
theorem ok_uses_of {k : Nat} {f : Addr} {fd : FuncData} (F : Fun K "uses_of" "uses_of" s_uses_of f fd) (b : Binds K fd ["net"] []) (g : mg "uses_of" = some (.ref f)) (B : Bt mg) : FnD P w K mg base ex (k + 1) "uses_of" false 1 sem_uses_of := by
  have Sc := sc_uses_of
  exact fnD F Sc (by decide) (by decide) (fun cdv A outer s H E hr => bCons (kSetO (i := 1) Sc.nd (oRepL (aCons eInt aNil) (eAddX (eAddX eInt (eIxS 0 eInt)) (eLen B.len (eIxS 0 eInt)))))
    (bCons (kFor (kl := [2, 3, 4]) (passes_of rfl) rfl (iIt (eIxS 0 eInt)) (gTup rfl (gsCons (gName_ (i := 2) Sc.nd) (gsCons (gName_ (i := 3) Sc.nd) gsNil))) (bOne (kFor (kl := [4]) (passes_of rfl) rfl (iIt (eSlot 2)) (gName_ (i := 4) Sc.nd) (bOne (kAugIx 1 (eSlot 4) eInt)))))
    (bCons (kFor (kl := []) (passes_of rfl) rfl (iIt (eIxS 0 eInt)) (gName_ (i := 4) Sc.nd) (bOne (kAugIx 1 (eSlot 4) eInt)))
    (bOne (kRet (eSlot 1)))))) b g
abbrev s_Chooser___init__ : Stmt := inClass (topS 14) 0
theorem sc_Chooser___init__ : FnScope ["self", "many"] ["self", "many"] (defScope s_Chooser___init__) := ⟨rfl, rfl, rfl, by decide +kernel, rfl, by decide +kernel, by decide +kernel⟩
abbrev s_kept_gates : Stmt := topS 15
theorem sc_kept_gates : FnScope ["net", "first", "found", "waiting", "signal"] ["net"] (defScope s_kept_gates) := ⟨rfl, rfl, rfl, by decide +kernel, rfl, by decide +kernel, by decide +kernel⟩
def f_kept_gates : FO :=
  sSeq (sMix [1, 2, 3] (fIts [.inl (fBin dAddX (fC (.int 2)) (fIxS 0 (fC (.int 0)))), .inr fDic0, .inr (fO (fListF (fIxS 0 (fC (.int 2)))))]))
    (sSeq (sWhile wF [4] (tVal (fCmpS dNe 3 (fFz (fLim fNil)))) (sSeq (sAsg (fPopL 3) (gNm 4))
    (sIf (fAnd (tVal (fBin dGe (fSlot 4) (fSlot 1))) (tVal (fDin true 2 (fSlot 4)))) (sSeq (sSetD 2 (fC (.bool true)) (fSlot 4))
    (sExt 3 (fListF (fIx (fIx (fIxS 0 (fC (.int 1))) (fBin dSub (fSlot 4) (fSlot 1))) (fC (.int 0)))))) sNil)))
    (sRet (fFz (fSortD 2))))
def sem_kept_gates : Sem' := semOf 5 false f_kept_gates
theorem ok_kept_gates {k : Nat} {f : Addr} {fd : FuncData} (F : Fun K "kept_gates" "kept_gates" s_kept_gates f fd) (b : Binds K fd ["net"] []) (g : mg "kept_gates" = some (.ref f)) (B : Bt mg) : FnD P w K mg base ex (k + 1) "kept_gates" false 1 sem_kept_gates := by
  have Sc := sc_kept_gates
  exact fnD F Sc (by decide) (by decide) (fun cdv A outer s H E hr => bCons (kMix3 (i0 := 1) (i1 := 2) (i2 := 3) Sc.nd (xVal (eAddX eInt (eIxS 0 eInt)) (xNew nDic0 (xNew (nOwn (oListF B.list (eIxS 0 eInt))) xNil))))
    (bCons (kWhile (n := wF) (kl := [4]) (passes_of rfl) (tNeS 3 hr (eFz (oLst aNil))) (bCons (kSet (i := 4) Sc.nd (ePopL 3))
    (bOne (kIf (PW.pt (tAndW (tGe' (eSlot 4) (eSlot 1)) (tAnd1 (tDninE 2 hr (eSlot 4))))) (bCons (kSetD 2 hr eBl (eSlot 4))
    (bOne (kExt 3 (oListF B.list (eIx (eIx (eIxS 0 eInt) (eSub (eSlot 4) (eSlot 1))) eInt))))) bNil))))
    (bOne (kRet (eFz (oSortD 2 rfl B.sorted)))))) b g
abbrev s_renumbered : Stmt := topS 16
theorem sc_renumbered : FnScope ["net", "gates", "first", "at", "found", "signal", "signals", "words", "one"] ["net", "gates"] (defScope s_renumbered) := ⟨rfl, rfl, rfl, by decide +kernel, rfl, by decide +kernel, by decide +kernel⟩
def f_renumbered : FO :=
  sSeq (sAsg (fBin dAddX (fC (.int 2)) (fIxS 0 (fC (.int 0)))) (gNm 2))
    (sSeq (sSetN 3 (fDComp [5] (fR1 (fCons (fSlot 2) fNil)) (gNm 5) fYes (fSlot 5) (fSlot 5)))
    (sSeq (sSetO 4 (fLim fNil))
    (sSeq (sFor [5, 6, 7] (fIt (fFz (fSortD 1))) (gNm 5) (sSeq (sSetD 3 (fBin dAddX (fSlot 2) (fLenS 4)) (fSlot 5))
    (sSeq (sAsg (fIxX 1 (fSlot 5)) (gTp 2 (gCo (gNm 6) (gCo (gNm 7) gNo))))
    (sApp 4 (fTup (fCons (fB1 dTup (fFz (fComp [8] (fIt (fSlot 6)) (gNm 8) fYes (fIxX 3 (fSlot 8))))) (fCons (fSlot 7) fNil)))))))
    (sRet (fTup (fCons (fIxS 0 (fC (.int 0))) (fCons (fB1 dTup (fSlot 4)) (fCons (fB1 dTup (fFz (fComp [5] (fIt (fIxS 0 (fC (.int 2)))) (gNm 5) fYes (fIxX 3 (fSlot 5))))) fNil))))))))
def sem_renumbered : Sem' := semOf 9 false f_renumbered
theorem ok_renumbered {k : Nat} {f : Addr} {fd : FuncData} (F : Fun K "renumbered" "renumbered" s_renumbered f fd) (b : Binds K fd ["net", "gates"] []) (g : mg "renumbered" = some (.ref f)) (B : Bt mg) : FnD P w K mg base ex (k + 1) "renumbered" false 2 sem_renumbered := by
  have Sc := sc_renumbered
  exact fnD F Sc (by decide) (by decide) (fun cdv A outer s H E hr => bCons (kSet (i := 2) Sc.nd (eAddX eInt (eIxS 0 eInt)))
    (bCons (kSetN (i := 3) Sc.nd (nDComp (own := [("signal", 5)]) rfl Sc.nd (iR1 B.range (aCons (eSlot 2) aNil)) (blkOk_by (by kernel_rfl)) (fun _ _ _ _ _ => gName_ (i := 5) Sc.nd) (fun _ _ _ _ _ => tsNil) (fun _ _ _ _ _ => eSlot 5) (fun _ _ _ _ _ => eSlot 5)))
    (bCons (kSetO (i := 4) Sc.nd (oLst aNil))
    (bCons (kFor (kl := [5, 6, 7]) (passes_of rfl) rfl (iIt (eFz (oSortD 1 rfl B.sorted))) (gName_ (i := 5) Sc.nd) (bCons (kSetD 3 hr (eAddX (eSlot 2) (eLenS 4 B.len)) (eSlot 5))
    (bCons (kAsg (eIxX 1 hr (eSlot 5)) (gTup rfl (gsCons (gName_ (i := 6) Sc.nd) (gsCons (gName_ (i := 7) Sc.nd) gsNil))))
    (bOne (kApp 4 (eTup (aCons (eTupF B.tuple (eFz (oComp (own := [("one", 8)]) rfl Sc.nd (iIt (eSlot 6)) (blkOk_by (by kernel_rfl)) (fun _ _ _ _ _ => gName_ (i := 8) Sc.nd) (fun _ _ _ _ _ => tsNil) (fun _ _ _ _ _ => eIxX 3 hr (eSlot 8))))) (aCons (eSlot 7) aNil))))))))
    (bOne (kRet (eTup (aCons (eIxS 0 eInt) (aCons (eTupF B.tuple (eSlot 4)) (aCons (eTupF B.tuple (eFz (oComp (own := [("signal", 5)]) rfl Sc.nd (iIt (eIxS 0 eInt)) (blkOk_by (by kernel_rfl)) (fun _ _ _ _ _ => gName_ (i := 5) Sc.nd) (fun _ _ _ _ _ => tsNil) (fun _ _ _ _ _ => eIxX 3 hr (eSlot 5))))) aNil)))))))))) b g
abbrev s_signals_together : Stmt := topS 19
theorem sc_signals_together : FnScope ["one", "signal", "inner", "found", "told", "late"] ["one", "signal", "inner"] (defScope s_signals_together) := ⟨rfl, rfl, rfl, by decide +kernel, rfl, by decide +kernel, by decide +kernel⟩
def f_signals_together : FO :=
  sSeq (sSetN 3 fDic0)
    (sSeq (sFor [4, 5] (fIt (fSlot 0)) (gNm 4) (sFor [5] (fIt (fIf (tVal (fCmpS dEq 4 (fSlot 1))) (fSlot 2) (fTup (fCons (fSlot 4) fNil)))) (gNm 5) (sIf (tVal (fBin dGt (fSlot 5) (fC (.int 1)))) (sSetD 3 (fC (.bool true)) (fSlot 5)) sNil)))
    (sRet (fB1 dTup (fFz (fSortD 3)))))
def sem_signals_together : Sem' := semOf 6 false f_signals_together
theorem ok_signals_together {k : Nat} {f : Addr} {fd : FuncData} (F : Fun K "signals_together" "signals_together" s_signals_together f fd) (b : Binds K fd ["one", "signal", "inner"] []) (g : mg "signals_together" = some (.ref f)) (B : Bt mg) : FnD P w K mg base ex (k + 1) "signals_together" false 3 sem_signals_together := by
  have Sc := sc_signals_together
  exact fnD F Sc (by decide) (by decide) (fun cdv A outer s H E hr => bCons (kSetN (i := 3) Sc.nd nDic0)
    (bCons (kFor (kl := [4, 5]) (passes_of rfl) rfl (iIt (eSlot 0)) (gName_ (i := 4) Sc.nd) (bOne (kFor (kl := [5]) (passes_of rfl) rfl (iIt (eIfE (tEqS 4 hr (eSlot 1)) (eSlot 2) (eTup (aCons (eSlot 4) aNil)))) (gName_ (i := 5) Sc.nd) (bOne (kIf (tGt' (eSlot 5) eInt) (bOne (kSetD 3 hr eBl (eSlot 5))) bNil)))))
    (bOne (kRet (eTupF B.tuple (eFz (oSortD 3 rfl B.sorted))))))) b g
abbrev s__law_cell_at : Stmt := topS 25
theorem sc__law_cell_at : FnScope ["_law_script", "_law_k"] ["_law_script", "_law_k"] (defScope s__law_cell_at) := ⟨rfl, rfl, rfl, by decide +kernel, rfl, by decide +kernel, by decide +kernel⟩
def f__law_cell_at : FO :=
  sSeq (sIf (tVal (fBin dLt (fSlot 1) (fLenS 0))) (sRet (fIxS 0 (fSlot 1))) sNil)
    (sRet (fC (.int 0)))
def sem__law_cell_at : Sem' := semOf 2 false f__law_cell_at
theorem ok__law_cell_at {k : Nat} {f : Addr} {fd : FuncData} (F : Fun K "_law_cell_at" "_law_cell_at" s__law_cell_at f fd) (b : Binds K fd ["_law_script", "_law_k"] []) (g : mg "_law_cell_at" = some (.ref f)) (B : Bt mg) : FnD P w K mg base ex (k + 1) "_law_cell_at" false 2 sem__law_cell_at := by
  have Sc := sc__law_cell_at
  exact fnD F Sc (by decide) (by decide) (fun cdv A outer s H E hr => bCons (kIf (tLt' (eSlot 1) (eLenS 0 B.len)) (bOne (kRet (eIxS 0 (eSlot 1)))) bNil)
    (bOne (kRet eInt))) b g
abbrev s__law_draw : Stmt := topS 26
theorem sc__law_draw : FnScope ["_law_cell", "_law_k", "_law_bound", "_law_primes"] ["_law_cell", "_law_k", "_law_bound"] (defScope s__law_draw) := ⟨rfl, rfl, rfl, by decide +kernel, rfl, by decide +kernel, by decide +kernel⟩
def f__law_draw : FO :=
  sSeq (sAsg (fTup (fCons (fC (.int 1000003)) (fCons (fC (.int 1000033)) (fCons (fC (.int 1000037)) (fCons (fC (.int 1000039)) (fCons (fC (.int 1000081)) (fCons (fC (.int 1000099)) (fCons (fC (.int 1000117)) (fCons (fC (.int 1000121)) (fCons (fC (.int 1000133)) (fCons (fC (.int 1000151)) (fCons (fC (.int 1000159)) (fCons (fC (.int 1000171)) (fCons (fC (.int 1000183)) (fCons (fC (.int 1000187)) (fCons (fC (.int 1000193)) (fCons (fC (.int 1000199)) fNil))))))))))))))))) (gNm 3))
    (sRet (fBin dMod (fBin dMod (fB1 dIntO (fBin dAddX (fBin dMul (fSlot 0) (fC (.int 48271))) (fBin dMul (fSlot 1) (fC (.int 69621))))) (fIxS 3 (fBin dMod (fB1 dIntO (fSlot 1)) (fC (.int 16))))) (fSlot 2)))
def sem__law_draw : Sem' := semOf 4 false f__law_draw
theorem ok__law_draw {k : Nat} {f : Addr} {fd : FuncData} (F : Fun K "_law_draw" "_law_draw" s__law_draw f fd) (b : Binds K fd ["_law_cell", "_law_k", "_law_bound"] []) (g : mg "_law_draw" = some (.ref f)) (B : Bt mg) : FnD P w K mg base ex (k + 1) "_law_draw" false 3 sem__law_draw := by
  have Sc := sc__law_draw
  exact fnD F Sc (by decide) (by decide) (fun cdv A outer s H E hr => bCons (kSet (i := 3) Sc.nd (eTup (aCons eInt (aCons eInt (aCons eInt (aCons eInt (aCons eInt (aCons eInt (aCons eInt (aCons eInt (aCons eInt (aCons eInt (aCons eInt (aCons eInt (aCons eInt (aCons eInt (aCons eInt (aCons eInt aNil))))))))))))))))))
    (bOne (kRet (eMod (eMod (eIntF B.int (eAddX (eMul (eSlot 0) eInt) (eMul (eSlot 1) eInt))) (eIxS 3 (eMod (eIntF B.int (eSlot 1)) eInt))) (eSlot 2))))) b g
abbrev s_net_values : Stmt := topS 5
theorem sc_net_values : FnScope ["net", "bits", "values", "told"] ["net", "bits"] (defScope s_net_values) := ⟨rfl, rfl, rfl, by decide +kernel, rfl, by decide +kernel, by decide +kernel⟩
def f_net_values : FO :=
  sSeq (sSetO 2 (fLim (fCons (fC (.int 0)) (fCons (fC (.int 1)) (fStar (fSlot 1) fNil)))))
    (sSeq (sFor [3] (fIt (fIxS 0 (fC (.int 1)))) (gNm 3) (sApp 2 (fCallB 2 sem_value_of (bAll1 (bSlot 3) (bAll1 (bSlot 2) bAll0)))))
    (sRet (fSlot 2)))
def sem_net_values : Sem' := semOf 4 false f_net_values
theorem ok_net_values {k : Nat} {f : Addr} {fd : FuncData} (F : Fun K "net_values" "net_values" s_net_values f fd) (b : Binds K fd ["net", "bits"] []) (g : mg "net_values" = some (.ref f)) (K_value_of : FnD P w K mg base ex k "value_of" false 2 sem_value_of) : FnD P w K mg base ex (k + 1) "net_values" false 2 sem_net_values := by
  have Sc := sc_net_values
  exact fnD F Sc (by decide) (by decide) (fun cdv A outer s H E hr => bCons (kSetO (i := 2) Sc.nd (oLst (aCons eInt (aCons eInt (aStar (eSlot 1) aNil)))))
    (bCons (kFor (kl := [3]) (passes_of rfl) rfl (iIt (eIxS 0 eInt)) (gName_ (i := 3) Sc.nd) (bOne (kApp 2 (eCallB K_value_of hr (takes_of rfl rfl rfl rfl) (bor1 (eBor 3) (bor1 (eBor 2) bor0))))))
    (bOne (kRet (eSlot 2))))) b g
abbrev s_depth_of : Stmt := topS 11
theorem sc_depth_of : FnScope ["net", "levels", "signal"] ["net"] (defScope s_depth_of) := ⟨rfl, rfl, rfl, by decide +kernel, rfl, by decide +kernel, by decide +kernel⟩
def f_depth_of : FO :=
  sSeq (sAsg (fCall 1 sem_levels_of (fCons (fSlot 0) fNil)) (gNm 1))
    (sRet (fB1 dMax (fFz (fLim (fCons (fC (.int 0)) (fStar (fFz (fComp [2] (fIt (fIxS 0 (fC (.int 2)))) (gNm 2) fYes (fIxS 1 (fSlot 2)))) fNil))))))
def sem_depth_of : Sem' := semOf 3 false f_depth_of
theorem ok_depth_of {k : Nat} {f : Addr} {fd : FuncData} (F : Fun K "depth_of" "depth_of" s_depth_of f fd) (b : Binds K fd ["net"] []) (g : mg "depth_of" = some (.ref f)) (B : Bt mg) (K_levels_of : FnD P w K mg base ex k "levels_of" false 1 sem_levels_of) : FnD P w K mg base ex (k + 1) "depth_of" false 1 sem_depth_of := by
  have Sc := sc_depth_of
  exact fnD F Sc (by decide) (by decide) (fun cdv A outer s H E hr => bCons (kSet (i := 1) Sc.nd (eCall K_levels_of hr (takes_of rfl rfl rfl rfl) (aCons (eSlot 0) aNil)))
    (bOne (kRet (eMaxF rfl B.max (eFz (oLst (aCons eInt (aStar (eFz (oComp (own := [("signal", 2)]) rfl Sc.nd (iIt (eIxS 0 eInt)) (blkOk_by (by kernel_rfl)) (fun _ _ _ _ _ => gName_ (i := 2) Sc.nd) (fun _ _ _ _ _ => tsNil) (fun _ _ _ _ _ => eIxS 1 (eSlot 2)))) aNil)))))))) b g
abbrev s_without_unused : Stmt := topS 17
theorem sc_without_unused : FnScope ["net", "first", "signal"] ["net"] (defScope s_without_unused) := ⟨rfl, rfl, rfl, by decide +kernel, rfl, by decide +kernel, by decide +kernel⟩
def f_without_unused : FO :=
  sSeq (sAsg (fBin dAddX (fC (.int 2)) (fIxS 0 (fC (.int 0)))) (gNm 1))
    (sRet (fCall 2 sem_renumbered (fCons (fSlot 0) (fCons (fFzN (fDComp [2] (fIt (fCall 1 sem_kept_gates (fCons (fSlot 0) fNil))) (gNm 2) fYes (fSlot 2) (fIx (fIxS 0 (fC (.int 1))) (fBin dSub (fSlot 2) (fSlot 1))))) fNil))))
def sem_without_unused : Sem' := semOf 3 false f_without_unused
theorem ok_without_unused {k : Nat} {f : Addr} {fd : FuncData} (F : Fun K "without_unused" "without_unused" s_without_unused f fd) (b : Binds K fd ["net"] []) (g : mg "without_unused" = some (.ref f)) (K_renumbered : FnD P w K mg base ex k "renumbered" false 2 sem_renumbered) (K_kept_gates : FnD P w K mg base ex k "kept_gates" false 1 sem_kept_gates) : FnD P w K mg base ex (k + 1) "without_unused" false 1 sem_without_unused := by
  have Sc := sc_without_unused
  exact fnD F Sc (by decide) (by decide) (fun cdv A outer s H E hr => bCons (kSet (i := 1) Sc.nd (eAddX eInt (eIxS 0 eInt)))
    (bOne (kRet (eCall K_renumbered hr (takes_of rfl rfl rfl rfl) (aCons (eSlot 0) (aCons (eFzN (nDComp (own := [("signal", 2)]) rfl Sc.nd (iIt (eCall K_kept_gates hr (takes_of rfl rfl rfl rfl) (aCons (eSlot 0) aNil))) (blkOk_by (by kernel_rfl)) (fun _ _ _ _ _ => gName_ (i := 2) Sc.nd) (fun _ _ _ _ _ => tsNil) (fun _ _ _ _ _ => eSlot 2) (fun _ _ _ _ _ => eIx (eIxS 0 eInt) (eSub (eSlot 2) (eSlot 1))))) aNil)))))) b g
abbrev s_words_together : Stmt := topS 20
theorem sc_words_together : FnScope ["told", "signal", "inner", "signals", "found", "number", "values", "late", "bits", "one"] ["told", "signal", "inner", "signals"] (defScope s_words_together) := ⟨rfl, rfl, rfl, by decide +kernel, rfl, by decide +kernel, by decide +kernel⟩
def f_words_together : FO :=
  sSeq (sSetO 4 (fLim fNil))
    (sSeq (sFor [5, 6, 7, 8] (fR1 (fCons (fBin dShl (fC (.int 1)) (fLenS 3)) fNil)) (gNm 5) (sSeq (sSetN 6 (fDZip (fSlot 3) (fCall 2 sem_bits_of (fCons (fSlot 5) (fCons (fLenS 3) fNil)))))
    (sSeq (sUpd 6 (fDisp [(fC (.int 0), fC (.int 0)), (fC (.int 1), fC (.int 1))]))
    (sSeq (sAsg (fIx (fIxS 2 (fC (.int 1))) (fCall 1 sem_number_of (fCons (fFz (fComp [9] (fIt (fIxS 2 (fC (.int 0)))) (gNm 9) fYes (fIxX 6 (fSlot 9)))) fNil))) (gNm 7))
    (sSeq (sSetO 8 (fComp [9] (fIt (fIxS 0 (fC (.int 0)))) (gNm 9) fYes (fIf (tVal (fCmpS dEq 9 (fSlot 1))) (fSlot 7) (fIxX 6 (fSlot 9)))))
    (sApp 4 (fIx (fIxS 0 (fC (.int 1))) (fCall 1 sem_number_of (fCons (fSlot 8) fNil)))))))))
    (sRet (fB1 dTup (fSlot 4))))
def sem_words_together : Sem' := semOf 10 false f_words_together
theorem ok_words_together {k : Nat} {f : Addr} {fd : FuncData} (F : Fun K "words_together" "words_together" s_words_together f fd) (b : Binds K fd ["told", "signal", "inner", "signals"] []) (g : mg "words_together" = some (.ref f)) (B : Bt mg) (K_bits_of : FnD P w K mg base ex k "bits_of" false 2 sem_bits_of) (K_number_of : FnD P w K mg base ex k "number_of" false 1 sem_number_of) : FnD P w K mg base ex (k + 1) "words_together" false 4 sem_words_together := by
  have Sc := sc_words_together
  exact fnD F Sc (by decide) (by decide) (fun cdv A outer s H E hr => bCons (kSetO (i := 4) Sc.nd (oLst aNil))
    (bCons (kFor (kl := [5, 6, 7, 8]) (passes_of rfl) rfl (iR1 B.range (aCons (eShl eInt (eLenS 3 B.len)) aNil)) (gName_ (i := 5) Sc.nd) (bCons (kSetN (i := 6) Sc.nd (nDZip rfl B.zip B.dict (eSlot 3) (eCall K_bits_of hr (takes_of rfl rfl rfl rfl) (aCons (eSlot 5) (aCons (eLenS 3 B.len) aNil)))))
    (bCons (kUpd 6 (nDisp (.cons eInt eInt (.cons eInt eInt .nil))))
    (bCons (kSet (i := 7) Sc.nd (eIx (eIxS 2 eInt) (eCall K_number_of hr (takes_of rfl rfl rfl rfl) (aCons (eFz (oComp (own := [("one", 9)]) rfl Sc.nd (iIt (eIxS 2 eInt)) (blkOk_by (by kernel_rfl)) (fun _ _ _ _ _ => gName_ (i := 9) Sc.nd) (fun _ _ _ _ _ => tsNil) (fun _ _ _ _ _ => eIxX 6 hr (eSlot 9)))) aNil))))
    (bCons (kSetLc (i := 8) (own := [("one", 9)]) rfl Sc.nd (iIt (eIxS 0 eInt)) (blkOk_by (by kernel_rfl)) (fun _ _ _ _ _ => gName_ (i := 9) Sc.nd) (fun _ _ _ _ _ => tsNil) (fun _ _ _ _ _ => eIfE (tEqS 9 hr (eSlot 1)) (eSlot 7) (eIxX 6 hr (eSlot 9))))
    (bOne (kApp 4 (eIx (eIxS 0 eInt) (eCall K_number_of hr (takes_of rfl rfl rfl rfl) (aCons (eSlot 8) aNil))))))))))
    (bOne (kRet (eTupF B.tuple (eSlot 4)))))) b g
abbrev s_plain_gate : Stmt := topS 22
theorem sc_plain_gate : FnScope ["told", "signals", "found", "number", "values", "one"] ["told"] (defScope s_plain_gate) := ⟨rfl, rfl, rfl, by decide +kernel, rfl, by decide +kernel, by decide +kernel⟩
def f_plain_gate : FO :=
  sSeq (sAsg (fB1 dTup (fFz (fSortSet (fFz (fComp [5] (fIt (fIxS 0 (fC (.int 0)))) (gNm 5) (tVal (fBin dGt (fSlot 5) (fC (.int 1)))) (fSlot 5)))))) (gNm 1))
    (sSeq (sSetO 2 (fLim fNil))
    (sSeq (sFor [3, 4] (fR1 (fCons (fBin dShl (fC (.int 1)) (fLenS 1)) fNil)) (gNm 3) (sSeq (sSetN 4 (fDZip (fSlot 1) (fCall 2 sem_bits_of (fCons (fSlot 3) (fCons (fLenS 1) fNil)))))
    (sSeq (sUpd 4 (fDisp [(fC (.int 0), fC (.int 0)), (fC (.int 1), fC (.int 1))]))
    (sApp 2 (fIx (fIxS 0 (fC (.int 1))) (fCall 1 sem_number_of (fCons (fFz (fComp [5] (fIt (fIxS 0 (fC (.int 0)))) (gNm 5) fYes (fIxX 4 (fSlot 5)))) fNil)))))))
    (sRet (fTup (fCons (fSlot 1) (fCons (fB1 dTup (fSlot 2)) fNil))))))
def sem_plain_gate : Sem' := semOf 6 false f_plain_gate
theorem ok_plain_gate {k : Nat} {f : Addr} {fd : FuncData} (F : Fun K "plain_gate" "plain_gate" s_plain_gate f fd) (b : Binds K fd ["told"] []) (g : mg "plain_gate" = some (.ref f)) (B : Bt mg) (K_bits_of : FnD P w K mg base ex k "bits_of" false 2 sem_bits_of) (K_number_of : FnD P w K mg base ex k "number_of" false 1 sem_number_of) : FnD P w K mg base ex (k + 1) "plain_gate" false 1 sem_plain_gate := by
  have Sc := sc_plain_gate
  exact fnD F Sc (by decide) (by decide) (fun cdv A outer s H E hr => bCons (kSet (i := 1) Sc.nd (eTupF B.tuple (eFz (oSortSet rfl B.sorted B.set (eFz (oComp (own := [("one", 5)]) rfl Sc.nd (iIt (eIxS 0 eInt)) (blkOk_by (by kernel_rfl)) (fun _ _ _ _ _ => gName_ (i := 5) Sc.nd) (fun _ _ _ _ _ => tsOne (tGt' (eSlot 5) eInt)) (fun _ _ _ _ _ => eSlot 5)))))))
    (bCons (kSetO (i := 2) Sc.nd (oLst aNil))
    (bCons (kFor (kl := [3, 4]) (passes_of rfl) rfl (iR1 B.range (aCons (eShl eInt (eLenS 1 B.len)) aNil)) (gName_ (i := 3) Sc.nd) (bCons (kSetN (i := 4) Sc.nd (nDZip rfl B.zip B.dict (eSlot 1) (eCall K_bits_of hr (takes_of rfl rfl rfl rfl) (aCons (eSlot 3) (aCons (eLenS 1 B.len) aNil)))))
    (bCons (kUpd 4 (nDisp (.cons eInt eInt (.cons eInt eInt .nil))))
    (bOne (kApp 2 (eIx (eIxS 0 eInt) (eCall K_number_of hr (takes_of rfl rfl rfl rfl) (aCons (eFz (oComp (own := [("one", 5)]) rfl Sc.nd (iIt (eIxS 0 eInt)) (blkOk_by (by kernel_rfl)) (fun _ _ _ _ _ => gName_ (i := 5) Sc.nd) (fun _ _ _ _ _ => tsNil) (fun _ _ _ _ _ => eIxX 4 hr (eSlot 5)))) aNil))))))))
    (bOne (kRet (eTup (aCons (eSlot 1) (aCons (eTupF B.tuple (eSlot 2)) aNil)))))))) b g
abbrev s__law_number : Stmt := topS 27
theorem sc__law_number : FnScope ["_law_cell", "_law_k", "_law_bound", "_law_power", "_law_lap", "_law_remains", "_law_small"] ["_law_cell", "_law_k", "_law_bound"] (defScope s__law_number) := ⟨rfl, rfl, rfl, by decide +kernel, rfl, by decide +kernel, by decide +kernel⟩
def f__law_number : FO :=
  sSeq (sAsg (fC (.int 1)) (gNm 3))
    (sSeq (sFor [4] (fR1 (fCons (fBin dMod (fB1 dIntO (fSlot 1)) (fC (.int 24))) fNil)) (gNm 4) (sAsg (fBin dMul (fSlot 3) (fC (.int 1009))) (gNm 3)))
    (sSeq (sAsg (fBin dDiv (fBin dSub (fSlot 0) (fBin dPow (fC (.int 10)) (fC (.int 18)))) (fSlot 3)) (gNm 5))
    (sSeq (sIf (tVal (fBin dGt (fSlot 5) (fC (.int 0)))) (sRet (fBin dMod (fBin dMod (fB1 dIntO (fSlot 5)) (fC (.int 1009))) (fSlot 2))) sNil)
    (sSeq (sAsg (fBin dMod (fB1 dIntO (fSlot 0)) (fC (.int 1000003))) (gNm 6))
    (sRet (fBin dMod (fCall 3 sem__law_draw (fCons (fBin dMul (fBin dAddX (fSlot 6) (fBin dMul (fC (.int 977)) (fSlot 1))) (fBin dAddX (fBin dAddX (fSlot 6) (fBin dMul (fC (.int 31)) (fSlot 1))) (fC (.int 5)))) (fCons (fBin dAddX (fBin dMod (fB1 dIntO (fSlot 1)) (fC (.int 9))) (fC (.int 1))) (fCons (fC (.int 999983)) fNil)))) (fSlot 2)))))))
def sem__law_number : Sem' := semOf 7 false f__law_number
theorem ok__law_number {k : Nat} {f : Addr} {fd : FuncData} (F : Fun K "_law_number" "_law_number" s__law_number f fd) (b : Binds K fd ["_law_cell", "_law_k", "_law_bound"] []) (g : mg "_law_number" = some (.ref f)) (B : Bt mg) (K__law_draw : FnD P w K mg base ex k "_law_draw" false 3 sem__law_draw) : FnD P w K mg base ex (k + 1) "_law_number" false 3 sem__law_number := by
  have Sc := sc__law_number
  exact fnD F Sc (by decide) (by decide) (fun cdv A outer s H E hr => bCons (kSet (i := 3) Sc.nd eInt)
    (bCons (kFor (kl := [4]) (passes_of rfl) rfl (iR1 B.range (aCons (eMod (eIntF B.int (eSlot 1)) eInt) aNil)) (gName_ (i := 4) Sc.nd) (bOne (kSet (i := 3) Sc.nd (eMul (eSlot 3) eInt))))
    (bCons (kSet (i := 5) Sc.nd (eDiv (eSub (eSlot 0) (ePow eInt eInt)) (eSlot 3)))
    (bCons (kIf (tGt' (eSlot 5) eInt) (bOne (kRet (eMod (eMod (eIntF B.int (eSlot 5)) eInt) (eSlot 2)))) bNil)
    (bCons (kSet (i := 6) Sc.nd (eMod (eIntF B.int (eSlot 0)) eInt))
    (bOne (kRet (eMod (eCall K__law_draw hr (takes_of rfl rfl rfl rfl) (aCons (eMul (eAddX (eSlot 6) (eMul eInt (eSlot 1))) (eAddX (eAddX (eSlot 6) (eMul eInt (eSlot 1))) eInt)) (aCons (eAddX (eMod (eIntF B.int (eSlot 1)) eInt) eInt) (aCons eInt aNil)))) (eSlot 2))))))))) b g
abbrev s_net_told : Stmt := topS 6
theorem sc_net_told : FnScope ["net", "bits", "values", "signal"] ["net", "bits"] (defScope s_net_told) := ⟨rfl, rfl, rfl, by decide +kernel, rfl, by decide +kernel, by decide +kernel⟩
def f_net_told : FO :=
  sSeq (sAsg (fCall 2 sem_net_values (fCons (fSlot 0) (fCons (fSlot 1) fNil))) (gNm 2))
    (sRet (fB1 dTup (fFz (fComp [3] (fIt (fIxS 0 (fC (.int 2)))) (gNm 3) fYes (fIxS 2 (fSlot 3))))))
def sem_net_told : Sem' := semOf 4 false f_net_told
theorem ok_net_told {k : Nat} {f : Addr} {fd : FuncData} (F : Fun K "net_told" "net_told" s_net_told f fd) (b : Binds K fd ["net", "bits"] []) (g : mg "net_told" = some (.ref f)) (B : Bt mg) (K_net_values : FnD P w K mg base ex k "net_values" false 2 sem_net_values) : FnD P w K mg base ex (k + 1) "net_told" false 2 sem_net_told := by
  have Sc := sc_net_told
  exact fnD F Sc (by decide) (by decide) (fun cdv A outer s H E hr => bCons (kSet (i := 2) Sc.nd (eCall K_net_values hr (takes_of rfl rfl rfl rfl) (aCons (eSlot 0) (aCons (eSlot 1) aNil))))
    (bOne (kRet (eTupF B.tuple (eFz (oComp (own := [("signal", 3)]) rfl Sc.nd (iIt (eIxS 0 eInt)) (blkOk_by (by kernel_rfl)) (fun _ _ _ _ _ => gName_ (i := 3) Sc.nd) (fun _ _ _ _ _ => tsNil) (fun _ _ _ _ _ => eIxS 2 (eSlot 3)))))))) b g
abbrev s_gathered_once : Stmt := topS 21
theorem sc_gathered_once : FnScope ["told", "gates", "uses", "fan", "first", "signal", "signals"] ["told", "gates", "uses", "fan", "first"] (defScope s_gathered_once) := ⟨rfl, rfl, rfl, by decide +kernel, rfl, by decide +kernel, by decide +kernel⟩
def f_gathered_once : FO :=
  sSeq (sFor [5, 6] (fIt (fIxS 0 (fC (.int 0)))) (gNm 5) (sIf (fAnd (tVal (fBin dGe (fSlot 5) (fSlot 4))) (fAnd (tVal (fBin dEq (fIxS 2 (fSlot 5)) (fC (.int 1)))) (tVal (fDin false 1 (fSlot 5))))) (sSeq (sAsg (fCall 3 sem_signals_together (fCons (fIxS 0 (fC (.int 0))) (fCons (fSlot 5) (fCons (fIx (fIxX 1 (fSlot 5)) (fC (.int 0))) fNil)))) (gNm 6))
    (sIf (tVal (fBin dLe (fLenS 6) (fSlot 3))) (sRet (fTup (fCons (fSlot 5) (fCons (fTup (fCons (fSlot 6) (fCons (fCall 4 sem_words_together (fCons (fSlot 0) (fCons (fSlot 5) (fCons (fIxX 1 (fSlot 5)) (fCons (fSlot 6) fNil))))) fNil))) fNil)))) sNil)) sNil))
    (sRet (fC .none))
def sem_gathered_once : Sem' := semOf 7 false f_gathered_once
theorem ok_gathered_once {k : Nat} {f : Addr} {fd : FuncData} (F : Fun K "gathered_once" "gathered_once" s_gathered_once f fd) (b : Binds K fd ["told", "gates", "uses", "fan", "first"] []) (g : mg "gathered_once" = some (.ref f)) (B : Bt mg) (K_signals_together : FnD P w K mg base ex k "signals_together" false 3 sem_signals_together) (K_words_together : FnD P w K mg base ex k "words_together" false 4 sem_words_together) : FnD P w K mg base ex (k + 1) "gathered_once" false 5 sem_gathered_once := by
  have Sc := sc_gathered_once
  exact fnD F Sc (by decide) (by decide) (fun cdv A outer s H E hr => bCons (kFor (kl := [5, 6]) (passes_of rfl) rfl (iIt (eIxS 0 eInt)) (gName_ (i := 5) Sc.nd) (bOne (kIf (PW.pt (tAndW (tGe' (eSlot 5) (eSlot 4)) (tAndW (tEq' hr (eIxS 2 (eSlot 5)) eInt) (tAnd1 (tDinE 1 hr (eSlot 5)))))) (bCons (kSet (i := 6) Sc.nd (eCall K_signals_together hr (takes_of rfl rfl rfl rfl) (aCons (eIxS 0 eInt) (aCons (eSlot 5) (aCons (eIx (eIxX 1 hr (eSlot 5)) eInt) aNil)))))
    (bOne (kIf (tLe' (eLenS 6 B.len) (eSlot 3)) (bOne (kRet (eTup (aCons (eSlot 5) (aCons (eTup (aCons (eSlot 6) (aCons (eCall K_words_together hr (takes_of rfl rfl rfl rfl) (aCons (eSlot 0) (aCons (eSlot 5) (aCons (eIxX 1 hr (eSlot 5)) (aCons (eSlot 6) aNil))))) aNil))) aNil))))) bNil))) bNil)))
    (bOne (kRet eNon))) b g
abbrev s__law_next : Stmt := topS 28
theorem sc__law_next : FnScope ["_law_draw_here", "_law_bound", "_law_at", "_law_cell"] ["_law_draw_here", "_law_bound"] (defScope s__law_next) := ⟨rfl, rfl, rfl, by decide +kernel, rfl, by decide +kernel, by decide +kernel⟩
def f__law_next : FO :=
  sSeq (sHd 0 (fBin dAddX (fHd 0 2) (fC (.int 1))))
    (sSeq (sAsg (fBin dDiv (fHd 0 2) (fC (.int 12))) (gNm 2))
    (sSeq (sAsg (fBin dAddX (fCall 2 sem__law_cell_at (fCons (fHd 0 0) (fCons (fBin dAddX (fHd 0 1) (fSlot 2)) fNil))) (fBin dMul (fC (.int 31)) (fSlot 2))) (gNm 3))
    (sRet (fCall 3 sem__law_number (fCons (fSlot 3) (fCons (fBin dAddX (fBin dMod (fB1 dIntO (fHd 0 2)) (fC (.int 12))) (fC (.int 1))) (fCons (fSlot 1) fNil)))))))
def sem__law_next : Sem' := semOf 4 true f__law_next
theorem ok__law_next {k : Nat} {f : Addr} {fd : FuncData} (F : Fun K "_law_next" "_law_next" s__law_next f fd) (b : Binds K fd ["_law_draw_here", "_law_bound"] []) (g : mg "_law_next" = some (.ref f)) (B : Bt mg) (K__law_cell_at : FnD P w K mg base ex k "_law_cell_at" false 2 sem__law_cell_at) (K__law_number : FnD P w K mg base ex k "_law_number" false 3 sem__law_number) : FnD P w K mg base ex (k + 1) "_law_next" true 1 sem__law_next := by
  have Sc := sc__law_next
  exact fnD F Sc (by decide) (by decide) (fun cdv A outer s H E hr => bCons (kHd 0 (eAddX (eHd 0) eInt))
    (bCons (kSet (i := 2) Sc.nd (eDiv (eHd 0) eInt))
    (bCons (kSet (i := 3) Sc.nd (eAddX (eCall K__law_cell_at hr (takes_of rfl rfl rfl rfl) (aCons (eHd 0) (aCons (eAddX (eHd 0) (eSlot 2)) aNil))) (eMul eInt (eSlot 2))))
    (bOne (kRet (eCall K__law_number hr (takes_of rfl rfl rfl rfl) (aCons (eSlot 3) (aCons (eAddX (eMod (eIntF B.int (eHd 0)) eInt) eInt) (aCons (eSlot 1) aNil))))))))) b g
abbrev s_gathered : Stmt := topS 23
theorem sc_gathered : FnScope ["net", "fan", "first", "uses", "gates", "signal", "late", "at", "told"] ["net", "fan"] (defScope s_gathered) := ⟨rfl, rfl, rfl, by decide +kernel, rfl, by decide +kernel, by decide +kernel⟩
def f_gathered : FO :=
  sSeq (sAsg (fTup (fCons (fBin dAddX (fC (.int 2)) (fIxS 0 (fC (.int 0)))) (fCons (fCall 1 sem_uses_of (fCons (fSlot 0) fNil)) fNil))) (gTp 2 (gCo (gNm 2) (gCo (gNm 3) gNo))))
    (sSeq (sSetN 4 (fDComp [7, 8] (fEnum (fIxS 0 (fC (.int 1)))) (gTp 2 (gCo (gNm 7) (gCo (gNm 8) gNo))) fYes (fBin dAddX (fSlot 2) (fSlot 7)) (fCall 1 sem_plain_gate (fCons (fSlot 8) fNil))))
    (sSeq (sFor [5, 6] (fIt (fFz (fSortD 4))) (gNm 5) (sWhile wF [6] (tVal (fC (.bool true))) (sSeq (sAsg (fCallT 5 sem_gathered_once (bAll1 (bIx 4 (bSlot 5)) (bAll1 (bSlot 4) (bAll1 (bSlot 3) (bAll1 (bSlot 1) (bAll1 (bSlot 2) bAll0)))))) (gNm 6))
    (sSeq (sIf (tVal (fBin dIsN (fSlot 6) (fC .none))) sBrk sNil)
    (sSeq (sSetD 4 (fIxS 6 (fC (.int 1))) (fSlot 5))
    (sDPop 4 (fIxS 6 (fC (.int 0)))))))))
    (sRet (fCall 1 sem_without_unused (fCons (fCall 2 sem_renumbered (fCons (fSlot 0) (fCons (fSlot 4) fNil))) fNil)))))
def sem_gathered : Sem' := semOf 9 false f_gathered
theorem ok_gathered {k : Nat} {f : Addr} {fd : FuncData} (F : Fun K "gathered" "gathered" s_gathered f fd) (b : Binds K fd ["net", "fan"] []) (g : mg "gathered" = some (.ref f)) (B : Bt mg) (K_uses_of : FnD P w K mg base ex k "uses_of" false 1 sem_uses_of) (K_plain_gate : FnD P w K mg base ex k "plain_gate" false 1 sem_plain_gate) (K_gathered_once : FnD P w K mg base ex k "gathered_once" false 5 sem_gathered_once) (K_without_unused : FnD P w K mg base ex k "without_unused" false 1 sem_without_unused) (K_renumbered : FnD P w K mg base ex k "renumbered" false 2 sem_renumbered) : FnD P w K mg base ex (k + 1) "gathered" false 2 sem_gathered := by
  have Sc := sc_gathered
  exact fnD F Sc (by decide) (by decide) (fun cdv A outer s H E hr => bCons (kAsg (eTup (aCons (eAddX eInt (eIxS 0 eInt)) (aCons (eCall K_uses_of hr (takes_of rfl rfl rfl rfl) (aCons (eSlot 0) aNil)) aNil))) (gTup rfl (gsCons (gName_ (i := 2) Sc.nd) (gsCons (gName_ (i := 3) Sc.nd) gsNil))))
    (bCons (kSetDc (i := 4) (own := [("at", 7), ("told", 8)]) rfl Sc.nd (iEnum B.enumerate (eIxS 0 eInt)) (blkOk_by (by kernel_rfl)) (fun _ _ _ _ _ => gTup rfl (gsCons (gName_ (i := 7) Sc.nd) (gsCons (gName_ (i := 8) Sc.nd) gsNil))) (fun _ _ _ _ _ => tsNil) (fun _ _ _ _ _ => eAddX (eSlot 2) (eSlot 7)) (fun _ _ _ _ _ => eCall K_plain_gate hr takes0 (aCons (eSlot 8) aNil)))
    (bCons (kFor (kl := [5, 6]) (passes_of rfl) rfl (iIt (eFz (oSortD 4 rfl B.sorted))) (gName_ (i := 5) Sc.nd) (bOne (kWhile (n := wF) (kl := [6]) (passes_of rfl) (tOf eBl) (bCons (kSet (i := 6) Sc.nd (eCallT K_gathered_once hr (takes_of rfl rfl rfl rfl) (bor1 (eBorIx 4 hr (eBor 5)) (bor1 (eBor 4) (bor1 (eBor 3) (bor1 (eBor 1) (bor1 (eBor 2) bor0)))))))
    (bCons (kIf (tIsN' (eSlot 6) eNon) (bOne kBrk) bNil)
    (bCons (kSetD 4 hr (eIxS 6 eInt) (eSlot 5))
    (bOne (kDPop 4 (eIxS 6 eInt)))))))))
    (bOne (kRet (eCall K_without_unused hr (takes_of rfl rfl rfl rfl) (aCons (eCall K_renumbered hr (takes_of rfl rfl rfl rfl) (aCons (eSlot 0) (aCons (eSlot 4) aNil))) aNil))))))) b g
abbrev s__law_net : Stmt := topS 29
theorem sc__law_net : FnScope ["_law_draw_here", "_law_inputs", "_law_many", "_law_gates", "_law_at", "_law_size", "_law_signals", "_law_turn"] ["_law_draw_here", "_law_inputs", "_law_many"] (defScope s__law_net) := ⟨rfl, rfl, rfl, by decide +kernel, rfl, by decide +kernel, by decide +kernel⟩
def f__law_net : FO :=
  sSeq (sSetO 3 (fLim fNil))
    (sSeq (sFor [4, 5, 6] (fR1 (fCons (fSlot 2) fNil)) (gNm 4) (sSeq (sAsg (fCallH 1 0 sem__law_next (fCons (fC (.int 4)) fNil)) (gNm 5))
    (sSeq (sAsg (fB1 dTup (fFz (fComp [7] (fR1 (fCons (fSlot 5) fNil)) (gNm 7) fYes (fCallH 1 0 sem__law_next (fCons (fBin dAddX (fBin dAddX (fC (.int 2)) (fSlot 1)) (fSlot 4)) fNil))))) (gNm 6))
    (sApp 3 (fTup (fCons (fSlot 6) (fCons (fB1 dTup (fFz (fComp [7] (fR1 (fCons (fBin dShl (fC (.int 1)) (fSlot 5)) fNil)) (gNm 7) fYes (fCallH 1 0 sem__law_next (fCons (fC (.int 2)) fNil))))) fNil)))))))
    (sRet (fTup (fCons (fSlot 1) (fCons (fB1 dTup (fSlot 3)) (fCons (fB1 dTup (fFz (fComp [7] (fR1 (fCons (fBin dAddX (fC (.int 1)) (fCallH 1 0 sem__law_next (fCons (fC (.int 3)) fNil))) fNil)) (gNm 7) fYes (fCallH 1 0 sem__law_next (fCons (fBin dAddX (fBin dAddX (fC (.int 2)) (fSlot 1)) (fSlot 2)) fNil))))) fNil))))))
def sem__law_net : Sem' := semOf 8 true f__law_net
theorem ok__law_net {k : Nat} {f : Addr} {fd : FuncData} (F : Fun K "_law_net" "_law_net" s__law_net f fd) (b : Binds K fd ["_law_draw_here", "_law_inputs", "_law_many"] []) (g : mg "_law_net" = some (.ref f)) (B : Bt mg) (K__law_next : FnD P w K mg base ex k "_law_next" true 1 sem__law_next) : FnD P w K mg base ex (k + 1) "_law_net" true 2 sem__law_net := by
  have Sc := sc__law_net
  exact fnD F Sc (by decide) (by decide) (fun cdv A outer s H E hr => bCons (kSetO (i := 3) Sc.nd (oLst aNil))
    (bCons (kFor (kl := [4, 5, 6]) (passes_of rfl) rfl (iR1 B.range (aCons (eSlot 2) aNil)) (gName_ (i := 4) Sc.nd) (bCons (kSet (i := 5) Sc.nd (eCallH 0 K__law_next hr (takes_of rfl rfl rfl rfl) (aCons eInt aNil)))
    (bCons (kSet (i := 6) Sc.nd (eTupF B.tuple (eFz (oComp (own := [("_law_turn", 7)]) rfl Sc.nd (iR1 B.range (aCons (eSlot 5) aNil)) (blkOk_by (by kernel_rfl)) (fun _ _ _ _ _ => gName_ (i := 7) Sc.nd) (fun _ _ _ _ _ => tsNil) (fun _ _ _ _ _ => eCallH 0 K__law_next hr takes0 (aCons (eAddX (eAddX eInt (eSlot 1)) (eSlot 4)) aNil))))))
    (bOne (kApp 3 (eTup (aCons (eSlot 6) (aCons (eTupF B.tuple (eFz (oComp (own := [("_law_turn", 7)]) rfl Sc.nd (iR1 B.range (aCons (eShl eInt (eSlot 5)) aNil)) (blkOk_by (by kernel_rfl)) (fun _ _ _ _ _ => gName_ (i := 7) Sc.nd) (fun _ _ _ _ _ => tsNil) (fun _ _ _ _ _ => eCallH 0 K__law_next hr takes0 (aCons eInt aNil))))) aNil))))))))
    (bOne (kRet (eTup (aCons (eSlot 1) (aCons (eTupF B.tuple (eSlot 3)) (aCons (eTupF B.tuple (eFz (oComp (own := [("_law_turn", 7)]) rfl Sc.nd (iR1 B.range (aCons (eAddX eInt (eCallH 0 K__law_next hr (takes_of rfl rfl rfl rfl) (aCons eInt aNil))) aNil)) (blkOk_by (by kernel_rfl)) (fun _ _ _ _ _ => gName_ (i := 7) Sc.nd) (fun _ _ _ _ _ => tsNil) (fun _ _ _ _ _ => eCallH 0 K__law_next hr takes0 (aCons (eAddX (eAddX eInt (eSlot 1)) (eSlot 2)) aNil))))) aNil)))))))) b g
abbrev s_Chooser_put : Stmt := inClass (topS 14) 1
theorem sc_Chooser_put : FnScope ["self", "words", "half", "low", "high", "bit", "told"] ["self", "words"] (defScope s_Chooser_put) := ⟨rfl, rfl, rfl, by decide +kernel, rfl, by decide +kernel, by decide +kernel⟩
abbrev s_net_of_functions : Stmt := topS 13
theorem sc_net_of_functions : FnScope ["many", "functions", "found", "outputs", "words"] ["many", "functions"] (defScope s_net_of_functions) := ⟨rfl, rfl, rfl, by decide +kernel, rfl, by decide +kernel, by decide +kernel⟩
/-! by hand: the chooser -/
section
open Cho
def spPut (K : PySem.W.Frag) (C : Addr) (many : Int) (n : Nat) : Sp := fun vs H Q _ => ∃ (x dx g k a : Addr) (ws : List Int) (gvs : List V) (ks : List T3),
  vs = [.ref x, .ref a] ∧ SqT K H a (ws.map V.int) ∧ ws.length = 2 ^ n ∧ n ≤ 10 ∧ Cw K C many H x dx g k gvs ks ∧ ks.length + 2 ^ n ≤ 10000 ∧
  ∀ H' gvs', ExtB g k H H' → Cw K C many H' x dx g k gvs' (put3 many n ws ks).2 → Q (.int (put3 many n ws ks).1) H'
theorem put_walk {j n : Nat} {C f : Addr} {fd : FuncData} {many : Int} {sp0 : Sp} (F0 : FnOk P w K mg base (L2.CX P w) j f fd ["self", "words"] sp0)
    (hs : ∀ m, n = m + 1 → ∀ vs H Q E, spPut K C many m vs H Q E → sp0 vs H Q E)
    (F : Fun K "put" "Chooser.put" s_Chooser_put f fd) (b : Binds K fd ["self", "words"] []) (T : ClsF K "Chooser" C ["many", "gates", "known"]) (M : Meth K C "put" f) (B : Bt mg) :
    FnOk P w K mg base (L2.CX P w) (j + 1) f fd ["self", "words"] (spPut K C many n) := by
  have Sc := sc_Chooser_put
  refine F.okX Sc (fun vs H Q E h => ?_) (fun cdv A outer s H vs Q E hr h => ⟨_,
    pss_cons (ps_set (i := 1) Sc.nd rfl (.inl rfl) (pe_callTy call_tupleT (by rfl) B.tuple PyProof.Rows.boot_tuple (pa_cons (pv 1) pa_nil)))
    (pss_cons (ps_if (pt_cmpR op_eq (pe_callB call_len_seq (by rfl) B.len PySem.boot_len (pa_cons (pv 1) pa_nil)) pe_int (nomark _)) (pss_one (ps_ret (pe_ix ix_tup (pv 1) pe_int (fun _ _ => rfl)))) pss_nil)
    (pss_cons (ps_set (i := 2) Sc.nd rfl (.inl rfl) (pe_op op_fdiv (pe_callB call_len_seq (by rfl) B.len PySem.boot_len (pa_cons (pv 1) pa_nil)) pe_int))
    (pss_cons (ps_par (i := 3) (j := 4) rfl Sc.nd rfl rfl (by decide) rfl rfl
        (pa_cons (pe_meth (E := E0) (pv 0) T.cl M F0 hr b .nil passL (pa_cons (pe_slice sl_tup (pv 1) po_none (po_some (pv 2))) pa_nil))
          (pa_cons (pe_meth (E := E0) (pv 0) T.cl M F0 hr b .nil passL (pa_cons (pe_slice sl_tup (pv 1) (po_some (pv 2)) po_none) pa_nil)) pa_nil)) (by rfl))
    (pss_cons (ps_if (pt_cmpR op_eq (pv 3) (pv 4) (nomark _)) (pss_one (ps_ret (pv 3))) pss_nil)
    (pss_cons (ps_set (i := 5) Sc.nd rfl (.inl rfl) (pe_op op_sub (pe_op op_add pe_int (pe_fld (pv 0) rfl)) (pe_op op_sub (pe_bits (pe_callB call_len_seq (by rfl) B.len PySem.boot_len (pa_cons (pv 1) pa_nil))) pe_int)))
    (pss_cons (ps_set (i := 6) Sc.nd rfl (.inl rfl) (pe_tup (pa_cons (pv 5) (pa_cons (pv 3) (pa_cons (pv 4) pa_nil)))))
    (pss_cons (ps_if (pt_cmp (pc_dnotin (hu_of hr) (pv 6) (pe_fld (pv 0) rfl)) rfl)
        (pss_cons (ps_dput (hu_of hr) (pe_fld (pv 0) rfl) (pv 6) (pe_op op_add (pe_op op_add pe_int (pe_fld (pv 0) rfl)) (pe_callB call_len_seq (by rfl) B.len PySem.boot_len (pa_cons (pe_fld (pv 0) rfl) pa_nil))) rfl)
        (pss_one (ps_expr (pe_bm PySem.F.plainAttrs_list PySem.F.slot_list_append PySem.F.type_list_append mt_append (pe_fld (pv 0) rfl)
          (pa_cons (pe_tup (pa_cons (pe_tup (pa_cons (pv 5) (pa_cons (pv 3) (pa_cons (pv 4) pa_nil))))
            (pa_cons (pe_tup (pa_cons pe_int (pa_cons pe_int (pa_cons pe_int (pa_cons pe_int (pa_cons pe_int (pa_cons pe_int (pa_cons pe_int (pa_cons pe_int pa_nil))))))))) pa_nil))) pa_nil))))) pss_nil)
    (pss_one (ps_ret (pe_dget (hu_of hr) (pe_fld (pv 0) rfl) (pv 6) (fun _ _ => rfl))))))))))), ?_⟩)
  · obtain ⟨x, dx, g, k, a, ws, gvs, ks, rfl, _⟩ := h
    rfl
  · obtain ⟨x, dx, g, k, a, ws, gvs, ks, rfl, hS, hl, hn, cw, hk, q⟩ := h
    have hlen : (ws.map V.int).length = 2 ^ n := by rw [List.length_map, hl]
    refine ⟨.ref a, rfl, a, _, rfl, hS, ?_⟩
    refine ⟨.ref a, rfl, a, _, rfl, .inr hS, rfl, _, rfl, ?_⟩
    cases n with
    | zero =>
      refine ite2 (fun _ => ?_) (fun h => absurd (show decide (V.int ((ws.map V.int).length : Int) = V.int 1) = true by rw [hlen]; rfl) h)
      match ws, hl with
      | [w0], _ =>
        exact ⟨.ref a, rfl, a, _, 0, .int w0, rfl, rfl, hS, rfl, q H gvs ExtB.refl cw⟩
    | succ m =>
      have hp : 0 < 2 ^ m := Nat.pow_pos (by decide)
      have e2 : 2 ^ (m + 1) = 2 ^ m + 2 ^ m := by rw [Nat.pow_succ]; omega
      have e3 : ((2 ^ (m + 1) : Nat) : Int) / 2 = ((2 ^ m : Nat) : Int) := by rw [e2]; omega
      have hm : 2 ^ m ≤ 512 := Nat.le_trans (Nat.pow_le_pow_right (by decide) (show m ≤ 9 by omega)) (by decide)
      refine ite2 (fun h => ?_) (fun _ => ?_)
      · have h : decide (V.int ((ws.map V.int).length : Int) = V.int 1) = true := h
        rw [hlen, decide_eq_true_eq] at h
        injection h with h
        omega
      refine ⟨.ref a, rfl, a, _, rfl, .inr hS, _, _, rfl, rfl, ⟨by decide, by decide⟩, ?_⟩
      rw [hlen]
      dsimp only [gName]
      rw [e3]
      have ht : (ws.take (2 ^ m)).length = 2 ^ m := by rw [List.length_take, hl]; omega
      have hd : (ws.drop (2 ^ m)).length = 2 ^ m := by rw [List.length_drop, hl]; omega
      have s1 : HT.sIx (ws.map V.int).length (ws.map V.int).length (some ((2 ^ m : Nat) : Int)) = 2 ^ m := by rw [HT.sIx_nat, hlen]; omega
      have s2 : HT.sIx (ws.map V.int).length 0 (some ((2 ^ m : Nat) : Int)) = 2 ^ m := by rw [HT.sIx_nat, hlen]; omega
      refine ⟨.ref x, rfl, x, dx, _, rfl, cw.ins, rfl, .ref a, rfl, _, rfl, _, rfl, a, _, rfl, hS, fun z => ?_, fun p1 hp1 => ?_⟩
      · rw [s1, hlen] at z
        omega
      refine hs m rfl _ _ _ _ ⟨x, dx, g, k, p1, ws.take (2 ^ m), gvs, ks, rfl, ?_, ht, by omega, cw.new hp1, by omega, fun H1 gvs1 x1 c1 => ?_⟩
      · rw [cut_lo (by omega)]
        exact SqT.of upd_same
      have x1 := (ExtB.new (g := g) (k := k) hp1).trans x1
      have hS1 := x1.seq cw hS
      have l1 := put3_len many m (ws.take (2 ^ m)) ks
      refine ⟨.ref x, rfl, x, dx, _, rfl, c1.ins, rfl, .ref a, rfl, _, rfl, _, rfl, a, _, rfl, hS1, fun z => ?_, fun p2 hp2 => ?_⟩
      · rw [s2] at z
        omega
      refine hs m rfl _ _ _ _ ⟨x, dx, g, k, p2, ws.drop (2 ^ m), gvs1, _, rfl, ?_, hd, by omega, c1.new hp2, by omega, fun H2 gvs2 x2 c2 => ?_⟩
      · rw [cut_hi (by omega)]
        exact SqT.of upd_same
      have x2 := x1.trans ((ExtB.new (g := g) (k := k) hp2).trans x2)
      have hS2 := x2.seq cw hS
      have l2 := put3_len many m (ws.drop (2 ^ m)) (put3 many m (ws.take (2 ^ m)) ks).2
      have ep : put3 many (m + 1) ws ks = put3 many (m + 1) ws ks := rfl
      conv at ep => rhs; rw [put3]
      generalize put3 many m (ws.drop (2 ^ m)) (put3 many m (ws.take (2 ^ m)) ks).2 = hi at *
      generalize put3 many m (ws.take (2 ^ m)) ks = lo at *
      refine ⟨_, _, rfl, ?_⟩
      refine ⟨_, rfl, _, rfl, rfl, _, rfl, ite2 (fun e => ?_) (fun e => ?_)⟩
      · have e : lo.1 = hi.1 := by simpa using e
        rw [if_pos e] at ep
        rw [ep] at q
        exact ⟨_, rfl, q H2 gvs2 x2 c2⟩
      have e : ¬ lo.1 = hi.1 := by simpa using e
      rw [if_neg e] at ep
      have hb : ((Builtin.Int.intBits ((ws.map V.int).length : Int) : Nat) : Int) - 1 = (m : Int) + 1 := by rw [hlen, bits_pow]; omega
      refine ⟨.ref x, rfl, x, C, dx, _, .int many, rfl, c2.ins, T.cl, T.no "many" (by decide), rfl, 2, many, rfl, rfl, .ref a, rfl, a, _, rfl, .inr hS2, _, rfl, _, _, rfl, rfl, _, _, rfl, rfl, ?_⟩
      dsimp only [gName]
      rw [hb]
      generalize ht3 : ((2 + many - ((m : Int) + 1), lo.1, hi.1) : T3) = t at ep
      refine ⟨_, rfl, _, rfl, _, rfl, (show 3 ≤ sizeLine by decide), fun p3 hp3 => ?_⟩
      rw [show [V.int (2 + many - ((m : Int) + 1)), V.int lo.1, V.int hi.1] = (k3 t).map kV by rw [← ht3]; rfl]
      have c3 := c2.new (o := .tup ((k3 t).map kV)) hp3
      have x3 := x2.trans (ExtB.new (g := g) (k := k) (o := .tup ((k3 t).map kV)) hp3)
      have e3 : upd H2 p3 (.tup ((k3 t).map kV)) p3 = some (.tup ((k3 t).map kV)) := upd_same
      generalize upd H2 p3 (.tup ((k3 t).map kV)) = H3 at c3 x3 e3 ⊢
      refine ⟨.ref p3, rfl, .ref x, rfl, x, C, dx, _, .ref k, rfl, c3.ins, T.cl, T.no "known" (by decide), rfl, k, _, rfl, DGet.t c3.kn e3, ?_⟩
      have hv := valV_known t hi.2 (2 + many)
      cases hlk : lk3 (2 + many) hi.2 t with
      | some v =>
        rw [hlk] at ep hv
        have hv : valV (knownV (2 + many) hi.2) (k3 t) = some (.int v) := hv
        have ep : put3 many (m + 1) ws ks = (v, hi.2) := ep
        rw [ep] at q
        refine ⟨_, rfl, ite2 (fun z => ?_) (fun _ => ?_)⟩
        · rw [hv] at z
          cases z
        exact ⟨.ref x, rfl, x, C, dx, _, .ref k, rfl, c3.ins, T.cl, T.no "known" (by decide), rfl, .ref p3, rfl, k, _, rfl, by rw [← hv]; exact DGet.t c3.kn e3, q H3 gvs2 x3 c3⟩
      | none =>
        rw [hlk] at ep hv
        have hv : valV (knownV (2 + many) hi.2) (k3 t) = none := hv
        have ep : put3 many (m + 1) ws ks = (2 + many + (hi.2.length : Int), hi.2 ++ [t]) := ep
        rw [ep] at q
        refine ⟨_, rfl, ite2 (fun _ => ?_) (fun z => ?_)⟩
        rotate_left
        · exact absurd (show (!(valV (knownV (2 + many) hi.2) (k3 t)).isSome) = true by rw [hv]; rfl) z
        refine ⟨.ref x, rfl, x, C, dx, _, .int many, rfl, c3.ins, T.cl, T.no "many" (by decide), rfl, 2, many, rfl, rfl, .ref x, rfl, x, C, dx, _, .ref g, rfl, c3.ins, T.cl, T.no "gates" (by decide), rfl, g, _, rfl, .inl (SqL.of c3.gt), _, _, rfl, rfl, ?_⟩
        refine ⟨.ref x, rfl, x, C, dx, _, .ref k, rfl, c3.ins, T.cl, T.no "known" (by decide), rfl, .ref p3, rfl, k, _, rfl, DPut.t c3.kn e3 (by rw [knownV_len]; show _ < 16777216; omega), ?_⟩
        rw [c3.glen, known_put hlk]
        have c4 := c3.setK (knownV (2 + many) (hi.2 ++ [t]))
        have x4 := x3.trans (ExtB.setK (g := g) (k := k) (o := .dT (knownV (2 + many) (hi.2 ++ [t]))))
        have e4 := (upd_ne (o := .dT (knownV (2 + many) (hi.2 ++ [t]))) (fun z => by rw [z, c3.kn] at e3; cases e3)).trans e3
        generalize upd H3 k (.dT (knownV (2 + many) (hi.2 ++ [t]))) = H4 at c4 x4 e4 ⊢
        refine ⟨.ref x, rfl, x, C, dx, _, .ref g, rfl, c4.ins, T.cl, T.no "gates" (by decide), rfl, .inl ⟨rfl, _, SqL.of c4.gt⟩, _, rfl, _, rfl, _, rfl, (show 3 ≤ sizeLine by decide), fun p4 hp4 => ?_⟩
        refine ⟨(show 8 ≤ sizeLine by decide), fun p5 hp5 => ?_⟩
        refine ⟨(show 2 ≤ sizeLine by decide), fun p6 hp6 => ?_⟩
        have c5 := c4.new (o := .tup [.int (2 + many - ((m : Int) + 1)), .int lo.1, .int hi.1]) hp4
        have x5 := x4.trans (ExtB.new (g := g) (k := k) (o := .tup [.int (2 + many - ((m : Int) + 1)), .int lo.1, .int hi.1]) hp4)
        have a5 : upd H4 p4 (.tup [.int (2 + many - ((m : Int) + 1)), .int lo.1, .int hi.1]) p4 = some (.tup [.int (2 + many - ((m : Int) + 1)), .int lo.1, .int hi.1]) := upd_same
        have e5 := (same_upd (o := .tup [.int (2 + many - ((m : Int) + 1)), .int lo.1, .int hi.1]) hp4) _ _ e4
        generalize upd H4 p4 (.tup [.int (2 + many - ((m : Int) + 1)), .int lo.1, .int hi.1]) = H5 at c5 x5 a5 e5 hp5 hp6 ⊢
        have c6 := c5.new (o := .tup [.int 0, .int 0, .int 1, .int 1, .int 0, .int 1, .int 0, .int 1]) hp5
        have x6 := x5.trans (ExtB.new (g := g) (k := k) (o := .tup [.int 0, .int 0, .int 1, .int 1, .int 0, .int 1, .int 0, .int 1]) hp5)
        have sm6 := same_upd (o := .tup [.int 0, .int 0, .int 1, .int 1, .int 0, .int 1, .int 0, .int 1]) hp5
        have a6 := sm6 _ _ a5
        have b6 : upd H5 p5 (.tup [.int 0, .int 0, .int 1, .int 1, .int 0, .int 1, .int 0, .int 1]) p5 = some (.tup [.int 0, .int 0, .int 1, .int 1, .int 0, .int 1, .int 0, .int 1]) := upd_same
        have e6 := sm6 _ _ e5
        generalize upd H5 p5 (.tup [.int 0, .int 0, .int 1, .int 1, .int 0, .int 1, .int 0, .int 1]) = H6 at c6 x6 a6 b6 e6 hp6 ⊢
        have c7 := c6.new (o := .tup [.ref p4, .ref p5]) hp6
        have x7 := x6.trans (ExtB.new (g := g) (k := k) (o := .tup [.ref p4, .ref p5]) hp6)
        have sm7 := same_upd (o := .tup [.ref p4, .ref p5]) hp6
        have a7 := sm7 _ _ a6
        have b7 := sm7 _ _ b6
        have e7 := sm7 _ _ e6
        have d7 : upd H6 p6 (.tup [.ref p4, .ref p5]) p6 = some (.tup [.ref p4, .ref p5]) := upd_same
        generalize upd H6 p6 (.tup [.ref p4, .ref p5]) = H7 at c7 x7 a7 b7 d7 e7 ⊢
        have hD : PD.Dp K (tupO H7) (.ref p6) (gateD t) := by
          rw [← ht3]
          exact .tup (SqT.of (tupO_of d7 rfl)) (.cons (.tup (SqT.of (tupO_of a7 rfl)) (.cons (.int _) (.cons (.int _) (.cons (.int _) .nil))))
            (.cons (.tup (SqT.of (tupO_of b7 rfl)) (.cons (.int _) (.cons (.int _) (.cons (.int _) (.cons (.int _) (.cons (.int _) (.cons (.int _) (.cons (.int _) (.cons (.int _) .nil))))))))) .nil))
        refine ⟨g, gvs2, _, rfl, rfl, c7.gt, by rw [c3.glen]; show _ < 16777216; omega, ?_⟩
        have c8 := c7.setG hD
        have x8 := x7.trans (ExtB.setG (g := g) (k := k) (o := .lst (gvs2 ++ [.ref p6])))
        have e8 := (upd_ne (o := .lst (gvs2 ++ [.ref p6])) (fun z => by rw [z, c7.gt] at e7; cases e7)).trans e7
        generalize upd H7 g (.lst (gvs2 ++ [.ref p6])) = H8 at c8 x8 e8 ⊢
        have hv8 := valV_known t (hi.2 ++ [t]) (2 + many)
        rw [lk3_snoc hlk] at hv8
        have hv8 : valV (knownV (2 + many) (hi.2 ++ [t])) (k3 t) = some (.int (2 + many + (hi.2.length : Int))) := hv8
        refine ⟨.ref x, rfl, x, C, dx, _, .ref k, rfl, c8.ins, T.cl, T.no "known" (by decide), rfl, .ref p3, rfl, k, _, rfl, by rw [← hv8]; exact DGet.t c8.kn e8, q H8 (gvs2 ++ [.ref p6]) x8 ?_⟩
        have em : (hi.2 ++ [t]).map gateD = hi.2.map gateD ++ [gateD t] := by rw [List.map_append]; rfl
        show Cz K C many H8 x dx g k _ ((hi.2 ++ [t]).map gateD) _
        rw [em]
        exact c8
theorem put_all {C f : Addr} {fd : FuncData} {many : Int} (F : Fun K "put" "Chooser.put" s_Chooser_put f fd) (b : Binds K fd ["self", "words"] []) (T : ClsF K "Chooser" C ["many", "gates", "known"]) (M : Meth K C "put" f) (B : Bt mg) :
    ∀ n : Nat, FnOk P w K mg base (L2.CX P w) (n + 1) f fd ["self", "words"] (spPut K C many n)
  | 0 => put_walk (sp0 := fun _ _ _ _ => False) ⟨fun _ _ _ _ h => h.elim, fun _ _ _ _ _ _ _ _ _ _ _ _ _ h => h.elim⟩ (fun _ e => by omega) F b T M B
  | n + 1 => put_walk (put_all F b T M B n) (fun m e vs H Q E h => by cases e; exact h) F b T M B
def spInit (K : PySem.W.Frag) (C : Addr) : Sp := fun vs H Q _ => ∃ (x dx : Addr) (many : Int), vs = [.ref x, .int many] ∧ H x = some (.ins C dx []) ∧
  ∀ H' g k, Cw K C many H' x dx g k [] [] → (∀ a o, H a = some o → a ≠ x → H' a = some o) → H g = none → H k = none → Q .non H'
theorem init_walk {C f : Addr} {fd : FuncData} (F : Fun K "__init__" "Chooser.__init__" s_Chooser___init__ f fd) (T : ClsF K "Chooser" C ["many", "gates", "known"]) :
    FnOk P w K mg base (L2.CX P w) 1 f fd ["self", "many"] (spInit K C) := by
  have Sc := sc_Chooser___init__
  refine F.okX Sc (fun vs H Q E h => ?_) (fun cdv A outer s H vs Q E hr h => ⟨_,
    pss_cons (ps_fld (pv 0) (pv 1) rfl) (pss_cons (ps_fld (pv 0) (pe_lst pa_nil) rfl) (pss_one (ps_fld (pv 0) pe_dnewT rfl))), ?_⟩)
  · obtain ⟨x, dx, many, rfl, _⟩ := h
    rfl
  · obtain ⟨x, dx, many, rfl, hx, q⟩ := h
    refine ⟨.int many, rfl, .ref x, rfl, x, C, dx, [], rfl, hx, T.cl, T.no "many" (by decide), by decide, ?_⟩
    refine ⟨(show 0 ≤ sizeLine by decide), fun g hg => ⟨.ref x, rfl, x, C, dx, [("many", .int many)], rfl, ?_, T.cl, T.no "gates" (by decide), (show 1 < 1000 by decide), ?_⟩⟩
    · rw [upd_ne (ne_of_none upd_same hg)]
      exact upd_same
    intro k hk
    refine ⟨.ref x, rfl, x, C, dx, [("many", .int many), ("gates", .ref g)], rfl, ?_, T.cl, T.no "known" (by decide), (show 2 < 1000 by decide), ?_⟩
    · rw [upd_ne (ne_of_none upd_same hk)]
      exact upd_same
    have xg : x ≠ g := ne_of_none upd_same hg
    have xk : x ≠ k := ne_of_none upd_same hk
    have gk : g ≠ k := ne_of_none (o := .lst []) ((upd_ne (Ne.symm xg)).trans upd_same) hk
    refine q _ g k ⟨upd_same, ?_, .nil, ?_⟩ (fun a o e n => ?_) ?_ ?_
    · rw [upd_ne (Ne.symm xg), upd_ne gk, upd_ne (Ne.symm xg), upd_same]
    · rw [upd_ne (Ne.symm xk), upd_same]
      rfl
    · have hg' : H g = none := (upd_ne (Ne.symm xg)).symm.trans hg
      have hk' : H k = none := by rw [upd_ne (Ne.symm xk), upd_ne (Ne.symm gk), upd_ne (Ne.symm xk)] at hk; exact hk
      rw [upd_ne n, upd_ne (ne_of_none e hk'), upd_ne n, upd_ne (ne_of_none e hg'), upd_ne n]
      exact e
    · exact (upd_ne (Ne.symm xg)).symm.trans hg
    · rw [upd_ne (Ne.symm xk), upd_ne (Ne.symm gk), upd_ne (Ne.symm xk)] at hk
      exact hk
def iOf : List D → Option (List Int)
  | [] => some []
  | .int i :: r => (iOf r).map fun l => i :: l
  | _ :: _ => none
def wsOf : List D → Option (List (List Int))
  | [] => some []
  | .tuple ds :: r => (iOf ds).bind fun ws => (wsOf r).map fun l => ws :: l
  | _ :: _ => none
def nofStep (many : Int) (st : List Int × List T3) (ws : List Int) : List Int × List T3 := (st.1 ++ [(put3 many many.toNat ws st.2).1], (put3 many many.toNat ws st.2).2)
def nofF (many : Int) (wss : List (List Int)) : List Int × List T3 := wss.foldl (nofStep many) ([], [])
def nofOk (many : Int) (wss : List (List Int)) : Bool := decide (0 ≤ many) && decide (many ≤ 5) && decide (wss.length ≤ 100) && wss.all fun ws => decide (ws.length = 2 ^ many.toNat)
def sem_net_of_functions : Sem' := fun ds w => match ds with
  | [.int many, .list fs] => (match wsOf fs with
    | some wss => if nofOk many wss = true then .ret (.tuple [.int many, .tuple ((nofF many wss).2.map gateD), .tuple ((nofF many wss).1.map PyData.int)]) w else .bad
    | none => .bad)
  | _ => .bad
theorem sem_nof_inv (ds : List D) (w : Wst) : sem_net_of_functions ds w = .bad ∨ ∃ many fs wss, ds = [.int many, .list fs] ∧ wsOf fs = some wss ∧ nofOk many wss = true ∧
    sem_net_of_functions ds w = .ret (.tuple [.int many, .tuple ((nofF many wss).2.map gateD), .tuple ((nofF many wss).1.map PyData.int)]) w := by
  unfold sem_net_of_functions
  split
  · split
    · split
      · exact .inr ⟨_, _, _, rfl, by assumption, by assumption, rfl⟩
      · exact .inl rfl
    · exact .inl rfl
  · exact .inl rfl
theorem iOf_eq : ∀ {ds : List D} {ns : List Int}, iOf ds = some ns → ds = ns.map PyData.int
  | [], ns, h => by cases h; rfl
  | .int i :: r, ns, h => by
    unfold iOf at h
    cases z : iOf r with
    | none => rw [z] at h; cases h
    | some l =>
      rw [z] at h
      cases h
      rw [List.map_cons, ← iOf_eq z]
  | .none :: _, _, h => by cases h
  | .bool _ :: _, _, h => by cases h
  | .str _ :: _, _, h => by cases h
  | .list _ :: _, _, h => by cases h
  | .tuple _ :: _, _, h => by cases h
  | .dict _ :: _, _, h => by cases h
theorem wsOf_get {G : Hp} : ∀ {ds : List D} {wss : List (List Int)} {vs : List V}, wsOf ds = some wss → PD.DpAll K G vs ds → vs.length = wss.length ∧ ∀ (i : Nat) v, vs[i]? = some v → ∃ a ws, v = .ref a ∧ wss[i]? = some ws ∧ SqT K G a (ws.map V.int)
  | [], wss, vs, h, hd => by
    cases h
    cases hd
    exact ⟨rfl, fun i v e => by simp at e⟩
  | .tuple ds :: r, wss, vs, h, hd => by
    unfold wsOf at h
    cases z : iOf ds with
    | none => rw [z] at h; cases h
    | some ws =>
      rw [z, Option.bind_some] at h
      cases z2 : wsOf r with
      | none => rw [z2] at h; cases h
      | some l =>
        rw [z2] at h
        cases h
        cases hd with
        | cons h1 h2 =>
          obtain ⟨e1, e2⟩ := wsOf_get z2 h2
          refine ⟨by rw [List.length_cons, List.length_cons, e1], fun i v e => ?_⟩
          cases i with
          | zero =>
            cases h1 with
            | tup q1 q2 =>
              cases e
              rw [iOf_eq z] at q2
              rw [DpAll.of_ints q2] at q1
              exact ⟨_, ws, rfl, rfl, q1⟩
          | succ i => exact e2 i v e
  | .none :: _, _, _, h, _ => by cases h
  | .bool _ :: _, _, _, h, _ => by cases h
  | .int _ :: _, _, _, h, _ => by cases h
  | .str _ :: _, _, _, h, _ => by cases h
  | .list _ :: _, _, _, h, _ => by cases h
  | .dict _ :: _, _, _, h, _ => by cases h
theorem base_tups {wa sc : Addr} {G H H' : Hp} {w : Wst} (b : Base K ⟨wa, sc, G, H, 0, []⟩ G H w) (sm : Same H H') : Base K ⟨wa, sc, G, H, 0, []⟩ (tupG G H') H' w := by
  refine ⟨fun a o e => ?_, sm _ _ b.wl, tupG_none b.wf (sm _ _ b.wl) rfl, (show Same G (tupG G H') from fun a o e => tupG_of e).seq b.scr, fun a o e => tupG_of e, fun a o e _ => sm a o e, fun a o e m n => tupG_none n (sm a o e) m, (fun _ h => nomatch h), fun a ps z => ?_⟩
  · rcases tupG_some e with h | ⟨h, _⟩
    · exact sm _ _ (b.sub a o h)
    · exact h
  · rcases tupG_some z with h | ⟨_, h1⟩
    · exact b.ng a ps h
    · cases h1
theorem tupO_tupG {G H : Hp} (sm : Same G H) : Same (tupO H) (tupG G H) := fun a o e => by
  obtain ⟨e1, m⟩ := tupO_some e
  exact tupG_tup sm e1 m
theorem nofF_len (many : Int) (h : many.toNat ≤ 5) : ∀ (wss : List (List Int)) (st : List Int × List T3), (wss.foldl (nofStep many) st).2.length ≤ st.2.length + wss.length * 32
  | [], st => by simp
  | ws :: r, st => by
    have h1 := nofF_len many h r (nofStep many st ws)
    have h2 := put3_len many many.toNat ws st.2
    have h3 : 2 ^ many.toNat ≤ 32 := Nat.pow_le_pow_right (by decide) h
    have h4 : (nofStep many st ws).2 = (put3 many many.toNat ws st.2).2 := rfl
    rw [List.foldl_cons, List.length_cons]
    rw [h4] at h1
    omega
theorem nofF_len1 (many : Int) : ∀ (wss : List (List Int)) (st : List Int × List T3), (wss.foldl (nofStep many) st).1.length = st.1.length + wss.length
  | [], st => by simp
  | ws :: r, st => by
    rw [List.foldl_cons, nofF_len1 many r]
    simp [nofStep]
    omega
theorem ok_net_of_functions {fp fi f C : Addr} {fdp fdi fd : FuncData} (F : Fun K "net_of_functions" "net_of_functions" s_net_of_functions f fd) (b : Binds K fd ["many", "functions"] []) (gm : mg "net_of_functions" = some (.ref f)) (B : Bt mg)
    (Fp : Fun K "put" "Chooser.put" s_Chooser_put fp fdp) (bp : Binds K fdp ["self", "words"] []) (T : ClsF K "Chooser" C ["many", "gates", "known"]) (M : Meth K C "put" fp)
    (Fi : Fun K "__init__" "Chooser.__init__" s_Chooser___init__ fi fdi) (bi : Binds K fdi ["self", "many"] []) (Mi : Mk K C fi) (hm : mg "Chooser" = some (.ref C)) : FnD P w K mg base ex 7 "net_of_functions" false 2 sem_net_of_functions := by
  have Sc := sc_net_of_functions
  have O : FnOk P w K mg base (L2.CX P w) 7 f fd ["many", "functions"] (spD K ex false 2 sem_net_of_functions) := by
    refine F.okX (k := 6) Sc (fun vs H Q E h => ?_) (fun cdv A outer s H vs Q E hr h => ?_)
    · obtain ⟨wa, sc, G, w, ds, vs', _, rfl, hl, hd, _⟩ := h
      exact hd.len.trans hl
    obtain ⟨wa, sc, G, wst, ds, vs', hB, rfl, hl, hd, q⟩ := h
    rcases sem_nof_inv ds wst with z | ⟨many, fs, wss, rfl, hws, hok, z⟩
    · rw [z] at q
      exact q.elim
    rw [z] at q
    unfold nofOk at hok
    simp only [Bool.and_eq_true, decide_eq_true_eq, List.all_eq_true] at hok
    obtain ⟨⟨⟨hm0, hm5⟩, hwl⟩, hwa⟩ := hok
    refine ⟨_, pss_cons (ps_set (i := 2) Sc.nd rfl (.inr rfl) (pe_make (E := E0) Mi (init_walk Fi T) (hr.mono (by decide)) rfl hm bi .nil passL (pa_cons (pv 0) pa_nil)))
      (pss_cons (ps_set (i := 3) Sc.nd rfl (.inl rfl) (pe_callTy call_tuple_of (by rfl) B.tuple PyProof.Rows.boot_tuple (pa_cons
        (pe_lc (own := [("words", 4)]) rfl Sc.nd (pi_list (pv 1)) (blkOk_by (by kernel_rfl)) (fun _ _ _ _ _ => pg_name (i := 4) Sc.nd rfl (Or.inl rfl)) (fun _ _ _ _ _ => pts_nil)
          (fun _ _ _ _ _ => pe_meth (E := E0) (pv 2) T.cl M ((put_all (many := many) Fp bp T M B many.toNat).mono (show many.toNat + 1 ≤ 6 by omega)) hr bp .nil passL (pa_cons (pv 4) pa_nil))) pa_nil)))
      (pss_one (ps_ret (pe_tup (pa_cons (pv 0) (pa_cons (pe_callTy call_tuple_of (by rfl) B.tuple PyProof.Rows.boot_tuple (pa_cons (pe_fld (pv 2) rfl) pa_nil)) (pa_cons (pv 3) pa_nil))))))), ?_⟩
    have hd' := hd
    cases hd with
    | cons d1 hd =>
    cases hd with
    | cons d2 hd =>
    cases hd
    cases d1
    cases d2 with
    | @lst af xs _ hxs hds =>
    obtain ⟨hxl, hxg⟩ := wsOf_get hws hds
    have nl := nofF_len many (show many.toNat ≤ 5 by omega) wss ([], [])
    have h32 : 2 ^ many.toNat ≤ 32 := Nat.le_trans (Nat.pow_le_pow_right (by decide) (show many.toNat ≤ 5 by omega)) (by decide)
    refine ⟨.int many, rfl, fun x dx hx hdx hne => ⟨x, dx, many, rfl, upd_same, fun H1 g k c1 e1 hg hk => ⟨rfl, ?_⟩⟩⟩
    have H0x : ∀ {a o}, H a = some o → a ≠ x := fun e => ne_of_none e hx
    have H0d : ∀ {a o}, H a = some o → a ≠ dx := fun e => ne_of_none e hdx
    have sm1 : Same H H1 := fun a o e => e1 a o (by rw [upd_ne (H0x e), upd_ne (H0d e)]; exact e) (H0x e)
    have H0g : ∀ {a o}, H a = some o → a ≠ g := fun {a o} e z => by
      have : upd (upd H dx (.own x)) x (.ins C dx []) a = some o := by rw [upd_ne (H0x e), upd_ne (H0d e)]; exact e
      rw [z, hg] at this
      cases this
    have H0k : ∀ {a o}, H a = some o → a ≠ k := fun {a o} e z => by
      have : upd (upd H dx (.own x)) x (.ins C dx []) a = some o := by rw [upd_ne (H0x e), upd_ne (H0d e)]; exact e
      rw [z, hk] at this
      cases this
    refine ⟨.ref af, rfl, af, rfl, ⟨xs, sm1.seq (hB.sub.seq hxs)⟩, fun Dd hD => ?_⟩
    refine lc_list (K := K) (a := af) (xs := xs) (fun i H2 => ∃ gvs, Same H H2 ∧ Cw K C many H2 x dx g k gvs ((wss.take i).foldl (nofStep many) ([], [])).2 ∧ H2 Dd = some (.lst (((wss.take i).foldl (nofStep many) ([], [])).1.map V.int))) ?_ (fun i H2 _ ⟨_, sm, _⟩ => sm.seq (hB.sub.seq hxs)) (fun i v H2 hi ⟨gvs, sm, cw, hDd⟩ => ?_) (fun H2 ⟨gvs, sm, cw, hDd⟩ => ?_)
    · exact ⟨[], sm1.trans (same_upd hD), c1.new hD, upd_same⟩
    · obtain ⟨a, ws, rfl, hwi, hS⟩ := hxg i v hi
      have hwl' := hwa ws (List.mem_of_getElem? hwi)
      have tl := nofF_len many (show many.toNat ≤ 5 by omega) (wss.take i) ([], [])
      have tl1 := nofF_len1 many (wss.take i) ([], [])
      have tl3 : (([], []) : List Int × List T3).1.length = 0 := rfl
      have tl2 : (wss.take i).length ≤ 100 := by rw [List.length_take]; omega
      have tl0 : (([], []) : List Int × List T3).2.length = 0 := rfl
      have hDg : Dd ≠ g := fun z => by rw [z, c1.gt] at hD; cases hD
      have hDk : Dd ≠ k := fun z => by rw [z, c1.kn] at hD; cases hD
      have hDx : Dd ≠ x := fun z => by rw [z, c1.ins] at hD; cases hD
      have et : (wss.take (i + 1)).foldl (nofStep many) ([], []) = nofStep many ((wss.take i).foldl (nofStep many) ([], [])) ws := by
        rw [List.take_add_one, hwi]
        exact List.foldl_append ..
      generalize (wss.take i).foldl (nofStep many) ([], []) = st at *
      refine ⟨rfl, ?_⟩
      show tMeth C "put" (spPut K C many many.toNat) [] L2.E0 (tVar 2) (tCons (tVar 4) tNil) _ H2 _
      refine ⟨.ref x, rfl, x, dx, _, rfl, cw.ins, rfl, .ref a, rfl, x, dx, g, k, a, ws, gvs, st.2, rfl, sqT_mono (hB.sub.trans sm) hS, hwl', by omega, cw, by omega, fun H3 gvs3 x3 c3 => ?_⟩
      have h3 := x3 Dd _ hDd hDg hDk
      refine ⟨_, h3, ?_, gvs3, fun u o e => ?_, ?_, ?_⟩
      · rw [List.length_map]
        show _ < 16777216
        omega
      · rw [upd_ne (ne_of_none (sm1 u o e) hD)]
        exact x3 u o (sm u o e) (H0g e) (H0k e)
      · rw [et]
        exact c3.other h3 rfl hDx hDg hDk
      · rw [et, upd_same]
        show some (HO.lst (st.1.map V.int ++ [V.int _])) = some (HO.lst ((st.1 ++ [_]).map V.int))
        rw [List.map_append]
        rfl
    · rw [List.take_of_length_le (by omega)] at cw hDd
      refine ⟨Dd, _, rfl, .inl ⟨SqL.of hDd, fun l hl => ?_⟩⟩
      have sm3 := sm.trans (same_upd (o := .tup ((wss.foldl (nofStep many) ([], [])).1.map V.int)) hl)
      have c3 := cw.new (o := .tup ((wss.foldl (nofStep many) ([], [])).1.map V.int)) hl
      have l3 : upd H2 l (.tup ((wss.foldl (nofStep many) ([], [])).1.map V.int)) l = some (.tup ((wss.foldl (nofStep many) ([], [])).1.map V.int)) := upd_same
      generalize upd H2 l (.tup ((wss.foldl (nofStep many) ([], [])).1.map V.int)) = H3 at sm3 c3 l3 ⊢
      refine ⟨.int many, rfl, .ref x, rfl, x, C, dx, _, .ref g, rfl, c3.ins, T.cl, T.no "gates" (by decide), rfl, g, _, rfl, .inl ⟨SqL.of c3.gt, fun l2 hl2 => ?_⟩⟩
      refine ⟨.ref l, rfl, (show 3 ≤ sizeLine by decide), fun p hp => ?_⟩
      have sm4 := sm3.trans (same_upd (o := .tup gvs) hl2)
      have c4 := c3.new (o := .tup gvs) hl2
      have l4 := same_upd (o := .tup gvs) hl2 _ _ l3
      have g4 : upd H3 l2 (.tup gvs) l2 = some (.tup gvs) := upd_same
      generalize upd H3 l2 (.tup gvs) = H4 at sm4 c4 l4 g4 hp ⊢
      have sm5 := sm4.trans (same_upd (o := .tup [.int many, .ref l2, .ref l]) hp)
      have c5 := c4.new (o := .tup [.int many, .ref l2, .ref l]) hp
      have l5 := same_upd (o := .tup [.int many, .ref l2, .ref l]) hp _ _ l4
      have g5 := same_upd (o := .tup [.int many, .ref l2, .ref l]) hp _ _ g4
      have p5 : upd H4 p (.tup [.int many, .ref l2, .ref l]) p = some (.tup [.int many, .ref l2, .ref l]) := upd_same
      generalize upd H4 p (.tup [.int many, .ref l2, .ref l]) = H5 at sm5 c5 l5 g5 p5 ⊢
      have sG : Same G H5 := hB.sub.trans sm5
      refine q _ _ _ (base_tups hB sm5) (.tup (SqT.of (tupG_tup sG p5 rfl)) (.cons (.int _) (.cons (.tup (SqT.of (tupG_tup sG g5 rfl)) (c5.gd.up (tupO_tupG sG))) (.cons (.tup (SqT.of (tupG_tup sG l5 rfl)) (DpAll.ints _)) .nil))))
  exact ⟨f, fd, _, O, gm, F.kp, b⟩
end
abbrev s_law : Stmt := topS 30
theorem sc_law : FnScope ["_law_script", "_law_draw_here", "_law_many", "_law_functions", "_law_net_here", "_law_fan", "_law_late", "_law_used", "_law_signals", "_law_words", "_law_number_here", "_law_turn", "_law_word", "_law_at"] ["_law_script"] (defScope s_law) := ⟨rfl, rfl, rfl, by decide +kernel, rfl, by decide +kernel, by decide +kernel⟩
def f_law : FO :=
  sSeq (sAsg (fBin dAddX (fC (.int 1)) (fCallH 1 1 sem__law_next (fCons (fC (.int 5)) fNil))) (gNm 2))
    (sSeq (sSetO 3 (fComp [10] (fR1 (fCons (fBin dAddX (fC (.int 1)) (fCallH 1 1 sem__law_next (fCons (fC (.int 3)) fNil))) fNil)) (gNm 10) fYes (fB1 dTup (fFz (fComp [11] (fR1 (fCons (fBin dShl (fC (.int 1)) (fSlot 2)) fNil)) (gNm 11) fYes (fCallH 1 1 sem__law_next (fCons (fC (.int 2)) fNil)))))))
    (sSeq (sFor [4, 5, 6, 7, 8, 9] (fIt (fFz (fLim (fCons (fCall 2 sem_net_of_functions (fCons (fSlot 2) (fCons (fSlot 3) fNil))) (fCons (fCallH 2 1 sem__law_net (fCons (fSlot 2) (fCons (fCallH 1 1 sem__law_next (fCons (fC (.int 18)) fNil)) fNil))) fNil))))) (gNm 4) (sSeq (sAsg (fBin dAddX (fC (.int 3)) (fCallH 1 1 sem__law_next (fCons (fC (.int 4)) fNil))) (gNm 5))
    (sSeq (sAsg (fCall 2 sem_gathered (fCons (fSlot 4) (fCons (fSlot 5) fNil))) (gNm 6))
    (sSeq (sDrp (fCall 2 sem_check_net (fCons (fSlot 6) (fCons (fSlot 5) fNil))))
    (sSeq (sIf (fOr (tVal (fBin dNe (fIxS 6 (fC (.int 0))) (fSlot 2))) (fOr (tVal (fBin dNe (fLen (fIxS 6 (fC (.int 2)))) (fLen (fIxS 4 (fC (.int 2)))))) (fOr (tVal (fBin dGt (fLen (fIxS 6 (fC (.int 1)))) (fLen (fIxS 4 (fC (.int 1)))))) (tVal (fBin dGt (fCall 1 sem_depth_of (fCons (fSlot 6) fNil)) (fCall 1 sem_depth_of (fCons (fSlot 4) fNil))))))) (sRet (fC (.bool false))) sNil)
    (sSeq (sIf (fNot (tVal (fB1 dAll (fFz (fComp [12] (fR1 (fCons (fBin dShl (fC (.int 1)) (fSlot 2)) fNil)) (gNm 12) fYes (fBin dEq (fCall 2 sem_net_told (fCons (fSlot 6) (fCons (fCall 2 sem_bits_of (fCons (fSlot 12) (fCons (fSlot 2) fNil))) fNil))) (fCall 2 sem_net_told (fCons (fSlot 4) (fCons (fCall 2 sem_bits_of (fCons (fSlot 12) (fCons (fSlot 2) fNil))) fNil))))))))) (sRet (fC (.bool false))) sNil)
    (sSeq (sSetO 7 (fListF (fIxS 6 (fC (.int 2)))))
    (sSeq (sFor [8, 9] (fIt (fIxS 6 (fC (.int 1)))) (gTp 2 (gCo (gNm 8) (gCo (gNm 9) gNo))) (sSetO 7 (fCatL (fSlot 7) (fFz (fListF (fSlot 8))))))
    (sIf (fNot (tVal (fB1 dAll (fFz (fComp [13] (fR1 (fCons (fLen (fIxS 6 (fC (.int 1)))) fNil)) (gNm 13) fYes (fBin dIn (fBin dAddX (fBin dAddX (fC (.int 2)) (fSlot 2)) (fSlot 13)) (fSlot 7))))))) (sRet (fC (.bool false))) sNil)))))))))
    (sRet (fC (.bool true)))))
theorem ok_law {k : Nat} {f : Addr} {fd : FuncData} (F : Fun K "law" "law" s_law f fd) (B : Bt mg) (nol : NoL K) (K__law_next : FnD P w K mg base ex k "_law_next" true 1 sem__law_next) (K__law_net : FnD P w K mg base ex k "_law_net" true 2 sem__law_net) (K_net_of_functions : FnD P w K mg base ex k "net_of_functions" false 2 sem_net_of_functions) (K_gathered : FnD P w K mg base ex k "gathered" false 2 sem_gathered) (K_check_net : FnD P w K mg base ex k "check_net" false 2 sem_check_net) (K_depth_of : FnD P w K mg base ex k "depth_of" false 1 sem_depth_of) (K_net_told : FnD P w K mg base ex k "net_told" false 2 sem_net_told) (K_bits_of : FnD P w K mg base ex k "bits_of" false 2 sem_bits_of)
    (good : ∀ ns : List Int, ns.length ≤ 63 → ∃ s', f_law (lawS 14 ns) = .rt (.bool true) s') : FnOk P w K mg base (L2.CX P w) (k + 1) f fd ["_law_script"] (spLaw K) := by
  have Sc := sc_law
  exact lawD F Sc (by decide) rfl (fun cdv A outer s H E => kMkD Sc.nd) (fun cdv A outer s H E hr => bCons (kSet (i := 2) Sc.nd (eAddX eInt (eCallH 1 K__law_next hr (takes_of rfl rfl rfl rfl) (aCons eInt aNil))))
    (bCons (kSetLc (i := 3) (own := [("_law_number_here", 10)]) rfl Sc.nd (iR1 B.range (aCons (eAddX eInt (eCallH 1 K__law_next hr (takes_of rfl rfl rfl rfl) (aCons eInt aNil))) aNil)) (blkOk_by (by kernel_rfl)) (fun _ _ _ _ _ => gName_ (i := 10) Sc.nd) (fun _ _ _ _ _ => tsNil) (fun _ _ _ _ _ => eTupF B.tuple (eFz (oComp (own := [("_law_turn", 11)]) rfl Sc.nd (iR1 B.range (aCons (eShl eInt (eSlot 2)) aNil)) (blkOk_by (by kernel_rfl)) (fun _ _ _ _ _ => gName_ (i := 11) Sc.nd) (fun _ _ _ _ _ => tsNil) (fun _ _ _ _ _ => eCallH 1 K__law_next hr takes0 (aCons eInt aNil))))))
    (bCons (kFor (kl := [4, 5, 6, 7, 8, 9]) (passes_of rfl) rfl (iIt (eFz (oLst (aCons (eCall K_net_of_functions hr (takes_of rfl rfl rfl rfl) (aCons (eSlot 2) (aCons (eSlot 3) aNil))) (aCons (eCallH 1 K__law_net hr (takes_of rfl rfl rfl rfl) (aCons (eSlot 2) (aCons (eCallH 1 K__law_next hr (takes_of rfl rfl rfl rfl) (aCons eInt aNil)) aNil))) aNil))))) (gName_ (i := 4) Sc.nd) (bCons (kSet (i := 5) Sc.nd (eAddX eInt (eCallH 1 K__law_next hr (takes_of rfl rfl rfl rfl) (aCons eInt aNil))))
    (bCons (kSet (i := 6) Sc.nd (eCall K_gathered hr (takes_of rfl rfl rfl rfl) (aCons (eSlot 4) (aCons (eSlot 5) aNil))))
    (bCons (kDrp (eCall K_check_net hr (takes_of rfl rfl rfl rfl) (aCons (eSlot 6) (aCons (eSlot 5) aNil))))
    (bCons (kIf (PW.pt (tOrW (tNe' hr (eIxS 6 eInt) (eSlot 2)) (tOrW (tNe' hr (eLen B.len (eIxS 6 eInt)) (eLen B.len (eIxS 4 eInt))) (tOrW (tGt' (eLen B.len (eIxS 6 eInt)) (eLen B.len (eIxS 4 eInt))) (tOr1 (tGt' (eCall K_depth_of hr (takes_of rfl rfl rfl rfl) (aCons (eSlot 6) aNil)) (eCall K_depth_of hr (takes_of rfl rfl rfl rfl) (aCons (eSlot 4) aNil)))))))) (bOne (kRet eBl)) bNil)
    (bCons (kIf (tNotT (tOf (eAllF rfl B.all (eFz (oComp (own := [("_law_word", 12)]) rfl Sc.nd (iR1 B.range (aCons (eShl eInt (eSlot 2)) aNil)) (blkOk_by (by kernel_rfl)) (fun _ _ _ _ _ => gName_ (i := 12) Sc.nd) (fun _ _ _ _ _ => tsNil) (fun _ _ _ _ _ => eEq hr (eCall K_net_told hr takes0 (aCons (eSlot 6) (aCons (eCall K_bits_of hr takes0 (aCons (eSlot 12) (aCons (eSlot 2) aNil))) aNil))) (eCall K_net_told hr takes0 (aCons (eSlot 4) (aCons (eCall K_bits_of hr takes0 (aCons (eSlot 12) (aCons (eSlot 2) aNil))) aNil))))))))) (bOne (kRet eBl)) bNil)
    (bCons (kSetO (i := 7) Sc.nd (oListF B.list (eIxS 6 eInt)))
    (bCons (kFor (kl := [8, 9]) (passes_of rfl) rfl (iIt (eIxS 6 eInt)) (gTup rfl (gsCons (gName_ (i := 8) Sc.nd) (gsCons (gName_ (i := 9) Sc.nd) gsNil))) (bOne (kSetO (i := 7) Sc.nd (oCatL nol (eSlot 7) (eFz (oListF B.list (eSlot 8)))))))
    (bOne (kIf (tNotT (tOf (eAllF rfl B.all (eFz (oComp (own := [("_law_at", 13)]) rfl Sc.nd (iR1 B.range (aCons (eLen B.len (eIxS 6 eInt)) aNil)) (blkOk_by (by kernel_rfl)) (fun _ _ _ _ _ => gName_ (i := 13) Sc.nd) (fun _ _ _ _ _ => tsNil) (fun _ _ _ _ _ => eIn hr (eAddX (eAddX eInt (eSlot 2)) (eSlot 13)) (eSlot 7))))))) (bOne (kRet eBl)) bNil))))))))))
    (bOne (kRet eBl))))) good
end
end Lk17
namespace Lk17
open PySem PySem.Spec L2 PD
open PyProof.Rows hiding St
theorem cell_ok (ns : List Int) (i : Int) (h : 0 ≤ i) (w : Wst) : ∃ c, sem__law_cell_at [.list (ns.map PyData.int), .int i] w = .ret (.int c) w := by
  obtain ⟨n, rfl⟩ := Int.eq_ofNat_of_zero_le h
  by_cases hn : n < ns.length
  · have hn' : n < (ns.map PyData.int).length := by rw [List.length_map]; exact hn
    refine ⟨ns[n], ?_⟩
    simp [sem__law_cell_at, semOf, startS, f__law_cell_at, rdSlot, fLenS, look, lenD, fIxS, dIx, hn, atI_nn hn']
  · refine ⟨0, ?_⟩
    simp [sem__law_cell_at, semOf, startS, f__law_cell_at, rdSlot, fLenS, look, lenD, hn]
theorem draw_ok (c k b : Int) (hb : 0 < b) (w : Wst) : ∃ r, 0 ≤ r ∧ r < b ∧ sem__law_draw [.int c, .int k, .int b] w = .ret (.int r) w := by
  have h16 := Int.emod_nonneg k (b := 16) (by decide)
  have h17 := Int.emod_lt_of_pos k (b := 16) (by decide)
  obtain ⟨n, hn⟩ := Int.eq_ofNat_of_zero_le h16
  have hn2 : n < 16 := by omega
  have key : ∃ p : Int, 0 < p ∧ atI ([1000003, 1000033, 1000037, 1000039, 1000081, 1000099, 1000117, 1000121, 1000133, 1000151, 1000159, 1000171, 1000183, 1000187, 1000193, 1000199].map PyData.int) (k % 16) = some (.int p) := by
    rw [hn]
    have z : ∀ m, m < 16 → ∃ p : Int, 0 < p ∧ atI ([1000003, 1000033, 1000037, 1000039, 1000081, 1000099, 1000117, 1000121, 1000133, 1000151, 1000159, 1000171, 1000183, 1000187, 1000193, 1000199].map PyData.int) ((m : Nat) : Int) = some (.int p) := by
      intro m hm
      have hl : m < ([1000003, 1000033, 1000037, 1000039, 1000081, 1000099, 1000117, 1000121, 1000133, 1000151, 1000159, 1000171, 1000183, 1000187, 1000193, 1000199] : List Int).length := hm
      refine ⟨_, ?_, (atI_nn (by rw [List.length_map]; exact hl)).trans (congrArg some (List.getElem_map ..))⟩
      have za : ∀ x ∈ ([1000003, 1000033, 1000037, 1000039, 1000081, 1000099, 1000117, 1000121, 1000133, 1000151, 1000159, 1000171, 1000183, 1000187, 1000193, 1000199] : List Int), 0 < x := by decide
      exact za _ (List.getElem_mem hl)
    exact z n hn2
  obtain ⟨p, hp, ep⟩ := key
  refine ⟨(c * 48271 + k * 69621) % p % b, Int.emod_nonneg _ (by omega), Int.emod_lt_of_pos _ hb, ?_⟩
  simp only [List.map_cons, List.map_nil] at ep
  have e1 : dMul (.int c) (.int 48271) = some (.int (c * 48271)) := dMul_r (by decide) (by decide)
  have e2 : dMul (.int k) (.int 69621) = some (.int (k * 69621)) := dMul_r (by decide) (by decide)
  have e3 : dMod (.int k) (.int 16) = some (.int (k % 16)) := dMod_ii (by decide)
  have hs : (16 : Nat) ≤ sizeLine := by decide
  simp [sem__law_draw, semOf, startS, f__law_draw, rdSlot, e1, e2, e3, dIntO, fIxS, look, dIx, ep, dMod_ii hp, dMod_ii hb, hs]
theorem number_ok (c k b : Int) (hk : 0 ≤ k) (hk2 : k ≤ 12) (hb : 0 < b) (w : Wst) : ∃ r, 0 ≤ r ∧ r < b ∧ sem__law_number [.int c, .int k, .int b] w = .ret (.int r) w := by
  have h16 := Int.emod_nonneg k (b := 24) (by decide)
  have h17 := Int.emod_lt_of_pos k (b := 24) (by decide)
  have e3 : dMod (.int k) (.int 24) = some (.int (k % 24)) := dMod_ii (by decide)
  have e4 : rng1 (.int (k % 24)) = some (upTo 0 (k % 24).toNat) := rng1_i (by omega) (by omega)
  have st : forD [4] (gNm 4) (sAsg (fBin dMul (fSlot 3) (fC (.int 1009))) (gNm 3)) (upTo 0 (k % 24).toNat) ⟨[some (.val (.int c)), some (.val (.int k)), some (.val (.int b)), some (.val (.int 1)), none, none, none], w⟩
      = .nx ⟨[some (.val (.int c)), some (.val (.int k)), some (.val (.int b)), some (.val (.int (1009 ^ (k % 24).toNat))), none, none, none], w⟩ := by
    have z := forD_fold (kl := [4]) (tg := gNm 4) (body := sAsg (fBin dMul (fSlot 3) (fC (.int 1009))) (gNm 3)) (fun (i : Nat) => PyData.int (0 + i)) (fun p : Int => (⟨[some (.val (.int c)), some (.val (.int k)), some (.val (.int b)), some (.val (.int p)), none, none, none], w⟩ : S)) (fun p _ => p * 1009) (fun _ => True) (List.range (k % 24).toNat) (fun p x _ _ => by
      have e1 : dMul (.int p) (.int 1009) = some (.int (p * 1009)) := dMul_r (by decide) (by decide)
      refine ⟨trivial, _, ⟨[some (.val (.int c)), some (.val (.int k)), some (.val (.int b)), some (.val (.int (p * 1009))), some (.val (.int (0 + x))), none, none], w⟩, rfl, .inl ?_, rfl⟩
      simp [rdSlot, e1]) 1 trivial
    have y : ∀ (n : Nat) (a : Int), (List.range n).foldl (fun p _ => p * 1009) a = a * 1009 ^ n := by
      intro n
      induction n with
      | zero => intro a; simp
      | succ n ih => intro a; rw [List.range_succ, List.foldl_append, ih]; simp [Int.pow_succ, Int.mul_assoc]
    rw [y, Int.one_mul] at z
    exact z.1
  have hq0 : (0 : Int) < 1009 ^ (k % 24).toNat := Int.pow_pos (by decide)
  have hq1 : (1009 : Int) ^ (k % 24).toNat < 2 ^ 8999 := by
    have z : ∀ m, m < 24 → (1009 : Int) ^ m < 2 ^ 8999 := by decide +kernel
    exact z _ (by omega)
  have e5 : ∀ x : Int, dDiv (.int x) (.int (1009 ^ (k % 24).toNat)) = some (.int (x / 1009 ^ (k % 24).toNat)) := fun x => dDiv_ii hq0 hq1
  have e6 : dPow (.int 10) (.int 18) = some (.int (10 ^ 18)) := rfl
  have e7 : ∀ x : Int, dMod (.int x) (.int 1009) = some (.int (x % 1009)) := fun x => dMod_ii (by decide)
  have e8 : ∀ x : Int, dMod (.int x) (.int 1000003) = some (.int (x % 1000003)) := fun x => dMod_ii (by decide)
  have e9 : ∀ x : Int, dMod (.int x) (.int b) = some (.int (x % b)) := fun x => dMod_ii hb
  have e10 : ∀ x : Int, dMod (.int x) (.int 9) = some (.int (x % 9)) := fun x => dMod_ii (by decide)
  have e11 : dMul (.int 977) (.int k) = some (.int (977 * k)) := dMul_l (by decide) (by decide)
  have e12 : dMul (.int 31) (.int k) = some (.int (31 * k)) := dMul_l (by decide) (by decide)
  have h3 := Int.emod_nonneg c (b := 1000003) (by decide)
  have h4 := Int.emod_lt_of_pos c (b := 1000003) (by decide)
  have e13 : ∀ x : Int, dMul (.int (c % 1000003 + 977 * k)) (.int x) = some (.int ((c % 1000003 + 977 * k) * x)) := fun x => dMul_l (by omega) (by omega)
  simp only [sem__law_number, semOf, startS, f__law_number]
  by_cases hr : 0 < (c - 10 ^ 18) / 1009 ^ (k % 24).toNat
  · refine ⟨(c - 10 ^ 18) / 1009 ^ (k % 24).toNat % 1009 % b, Int.emod_nonneg _ (by omega), Int.emod_lt_of_pos _ hb, ?_⟩
    simp only [Int.reducePow] at hr
    simp [rdSlot, e3, dIntO, e4, st, e5, e6, S.put, hr, e7, e9]
  · obtain ⟨r, _, _, e14⟩ := draw_ok ((c % 1000003 + 977 * k) * (c % 1000003 + 31 * k + 5)) (k % 9 + 1) 999983 (by decide) w
    refine ⟨r % b, Int.emod_nonneg _ (by omega), Int.emod_lt_of_pos _ hb, ?_⟩
    simp only [Int.reducePow] at hr
    simp [rdSlot, e3, dIntO, e4, st, e5, e6, S.put, hr, e7, e9, e8, e10, e11, e12, e13, e14]
theorem next_ok (ns : List Int) (k b : Int) (hk : 0 ≤ k) (hb : 0 < b) : ∃ r, 0 ≤ r ∧ r < b ∧ sem__law_next [.int b] ⟨ns, k⟩ = .ret (.int r) ⟨ns, k + 1⟩ := by
  have h1 : 0 ≤ (k + 1) / 12 := Int.ediv_nonneg (by omega) (by decide)
  obtain ⟨c, ec⟩ := cell_ok ns (0 + (k + 1) / 12) (by omega) ⟨ns, k + 1⟩
  obtain ⟨r, r0, r1, er⟩ := number_ok (c + 31 * ((k + 1) / 12)) ((k + 1) % 12 + 1) b (by have := Int.emod_nonneg (k + 1) (b := 12) (by decide); omega) (by have := Int.emod_lt_of_pos (k + 1) (b := 12) (by decide); omega) hb ⟨ns, k + 1⟩
  refine ⟨r, r0, r1, ?_⟩
  have e1 : dDiv (.int (k + 1)) (.int 12) = some (.int ((k + 1) / 12)) := dDiv_ii (by decide) (by decide)
  have e2 : dMul (.int 31) (.int ((k + 1) / 12)) = some (.int (31 * ((k + 1) / 12))) := dMul_l (by decide) (by decide)
  have e3 : dMod (.int (k + 1)) (.int 12) = some (.int ((k + 1) % 12)) := dMod_ii (by decide)
  simp only [Int.zero_add] at ec
  simp [sem__law_next, semOf, startS, f__law_next, rdSlot, sHd, fHd, hdAt, e1, e2, e3, dIntO, ec, er, S.put]
end Lk17
namespace Lk17
open PySem PySem.Spec L2 PD
open PyProof.Rows hiding St
abbrev Gate := List Nat × List Nat
def gD (g : Gate) : D := .tuple [.tuple (g.1.map nD), .tuple (g.2.map nD)]
def netD (n : Nat) (gs : List Gate) (os : List Nat) : D := .tuple [nD n, .tuple (gs.map gD), .tuple (os.map nD)]
structure GOk (b : Nat) (g : Gate) : Prop where
  sig : ∀ x ∈ g.1, x < b
  len : g.2.length = 2 ^ g.1.length
  bit : ∀ x ∈ g.2, x < 2
  fan : g.1.length ≤ 6
def NetOk (n : Nat) (gs : List Gate) : Prop := ∀ i g, gs[i]? = some g → GOk (2 + n + i) g
def idxF (vals : List Nat) (a : Nat) (sg : List Nat) : Nat := sg.foldl (fun a x => 2 * a + nth vals x) a
def idx (vals sg : List Nat) : Nat := idxF vals 0 sg
theorem idx_go (vals : List Nat) (hv : ∀ x ∈ vals, x < 2) : ∀ (sg : List Nat) (a k : Nat), (∀ x ∈ sg, x < vals.length) → a < 2 ^ k → idxF vals a sg < 2 ^ (k + sg.length)
  | [], a, k, _, h => h
  | x :: sg, a, k, hs, h => by
    have hx := hs x List.mem_cons_self
    have h1 : nth vals x < 2 := hv _ (nth_mem hx)
    have ih := idx_go vals hv sg (2 * a + nth vals x) (k + 1) (fun y hy => hs y (List.mem_cons_of_mem _ hy)) (by rw [Nat.pow_succ]; omega)
    rw [List.length_cons, show k + (sg.length + 1) = k + 1 + sg.length by omega]
    exact ih
theorem idx_lt {vals sg : List Nat} (hv : ∀ x ∈ vals, x < 2) (hs : ∀ x ∈ sg, x < vals.length) : idx vals sg < 2 ^ sg.length := by
  have z := idx_go vals hv sg 0 0 hs (by decide)
  rw [Nat.zero_add] at z
  exact z
def val (vals : List Nat) (g : Gate) : Nat := nth g.2 (idx vals g.1)
theorem val_lt {vals : List Nat} {g : Gate} (hv : ∀ x ∈ vals, x < 2) (ok : GOk vals.length g) : val vals g < 2 := by
  have h := idx_lt hv ok.sig
  rw [← ok.len] at h
  exact ok.bit _ (nth_mem h)
/-- the loop over the signals, in any slots -/
theorem value_loop (e0 e2 e3 : Option Ent) (vals : List Nat) (w : Wst) (hv : ∀ x ∈ vals, x < 2) (ev : Ent) (hev : lkE (some (some ev)) = some (.list (vals.map nD))) : ∀ (sg : List Nat) (a : Nat), (∀ x ∈ sg, x < vals.length) → a < 2 ^ 50 →
    sg.length ≤ 6 → forD [5] (gNm 5) (sAsg (fBin dAddX (fBin dMul (fC (.int 2)) (fSlot 4)) (fIxX 1 (fSlot 5))) (gNm 4)) (sg.map nD) ⟨[e0, some ev, e2, e3, some (.val (.int (a : Int))), none], w⟩ =
      .nx ⟨[e0, some ev, e2, e3, some (.val (.int ((idxF vals a sg : Nat) : Int))), none], w⟩ := by
  intro sg a hs ha hl
  have z := forD_fold (kl := [5]) (tg := gNm 5) (body := (sAsg (fBin dAddX (fBin dMul (fC (.int 2)) (fSlot 4)) (fIxX 1 (fSlot 5))) (gNm 4))) nD (fun a : Nat => (⟨[e0, some ev, e2, e3, some (.val (.int (a : Int))), none], w⟩ : S)) (fun a x => 2 * a + nth vals x) (fun _ => True) sg (fun a x hx _ => by
    refine ⟨trivial, _, ⟨[e0, some ev, e2, e3, some (.val (.int ((2 * a + nth vals x : Nat) : Int))), some (.val (nD x))], w⟩, rfl, .inl ?_, rfl⟩
    have e1 : dMul (.int 2) (.int (a : Int)) = some (.int (2 * (a : Int))) := dMul_l (by decide) (by decide)
    have e4 := atI_nD (hs x hx)
    simp -implicitDefEqProofs [e1, nD_eq, hev] 
    simp only [nD_eq] at e4
    simp -implicitDefEqProofs [nD_eq, e4]) a trivial
  exact z.1
theorem value_of_ok (vals : List Nat) (g : Gate) (hv : ∀ x ∈ vals, x < 2) (ok : GOk vals.length g) (w : Wst) : sem_value_of [gD g, .list (vals.map nD)] w = .ret (nD (val vals g)) w := by
  have h := idx_lt hv ok.sig
  rw [← ok.len] at h
  have e1 := value_loop (some (.val (gD g))) (some (.val (.tuple (g.1.map nD)))) (some (.val (.tuple (g.2.map nD)))) vals w hv (.val (.list (vals.map nD))) rfl g.1 0 ok.sig (by decide) ok.fan
  have e2 := atI_nD h
  simp only [sem_value_of, semOf, startS, f_value_of]
  unfold idx at e2
  simp only [gD, Int.natCast_zero, Int.ofNat_zero] at e1
  simp -implicitDefEqProofs [gD, e1]
  simp -implicitDefEqProofs [e2, val, idx]
end Lk17
namespace Lk17
open PySem PySem.Spec L2 PD
open PyProof.Rows hiding St
def evS (vs : List Nat) (g : Gate) : List Nat := vs ++ [val vs g]
def evalN (gs : List Gate) (bits : List Nat) : List Nat := gs.foldl evS (0 :: 1 :: bits)
def Bits (l : List Nat) : Prop := ∀ x ∈ l, x < 2
theorem evS_ok {vs : List Nat} {g : Gate} (hv : Bits vs) (ok : GOk vs.length g) : Bits (evS vs g) := fun x hx => by
  rcases List.mem_append.mp hx with h | h
  · exact hv x h
  · rw [List.mem_singleton.mp h]; exact val_lt hv ok
theorem ev_inv {n : Nat} {gs : List Gate} {bits : List Nat} (hb : bits.length = n) (hbit : Bits bits) (ok : NetOk n gs) : Bits (evalN gs bits) ∧ (evalN gs bits).length = 2 + n + gs.length := by
  have z : ∀ (l : List Gate) (i : Nat) (vs : List Nat), (∀ j g, l[j]? = some g → GOk (2 + n + (i + j)) g) → Bits vs → vs.length = 2 + n + i → Bits (l.foldl evS vs) ∧ (l.foldl evS vs).length = 2 + n + (i + l.length) := by
    intro l
    induction l with
    | nil => intro i vs _ h1 h2; exact ⟨h1, h2⟩
    | cons g l ih =>
      intro i vs h h1 h2
      have hg := h 0 g rfl
      have z := ih (i + 1) (evS vs g) (fun j g' hj => by have := h (j + 1) g' hj; rw [show i + (j + 1) = i + 1 + j by omega] at this; exact this) (evS_ok h1 (by rw [h2]; exact hg)) (by unfold evS; simp [h2]; omega)
      rw [List.foldl_cons, List.length_cons, show i + (l.length + 1) = i + 1 + l.length by omega]
      exact z
  have y := z gs 0 (0 :: 1 :: bits) (fun j g hj => by have := ok j g hj; rw [Nat.zero_add]; exact this) (fun x hx => by
    rcases List.mem_cons.mp hx with h | hx
    · omega
    · rcases List.mem_cons.mp hx with h | hx
      · omega
      · exact hbit x hx) (by simp [hb]; omega)
  rw [Nat.zero_add] at y
  exact y
theorem net_values_ok {n : Nat} {gs : List Gate} {os : List Nat} {bits : List Nat} (hb : bits.length = n) (hbit : Bits bits) (ok : NetOk n gs) (hsz : n + gs.length ≤ 1000) (w : Wst) :
    sem_net_values [netD n gs os, .tuple (bits.map nD)] w = .ret (.list ((evalN gs bits).map nD)) w := by
  have sl : (2000 : Nat) ≤ sizeLine := by decide
  have z := forD_foldi (kl := [3]) (tg := gNm 3) (body := sApp 2 (fCallB 2 sem_value_of (bAll1 (bSlot 3) (bAll1 (bSlot 2) bAll0)))) gD (fun vs : List Nat => (⟨[some (.val (netD n gs os)), some (.val (.tuple (bits.map nD))), some (.own (vs.map nD)), none], w⟩ : S)) evS (fun i vs => Bits vs ∧ vs.length = 2 + n + i) gs 0 (fun i vs g hg ⟨h1, h2⟩ => by
    have hi : i < gs.length := by
      rcases Nat.lt_or_ge i gs.length with h | h
      · exact h
      · rw [List.getElem?_eq_none h] at hg; cases hg
    rw [Nat.zero_add] at h2 ⊢
    have og : GOk vs.length g := by rw [h2]; exact ok i g hg
    refine ⟨⟨evS_ok h1 og, by unfold evS; simp [h2]; omega⟩, _, ⟨[some (.val (netD n gs os)), some (.val (.tuple (bits.map nD))), some (.own ((evS vs g).map nD)), some (.val (gD g))], w⟩, rfl, .inl ?_, rfl⟩
    have e1 := value_of_ok vs g h1 og w
    have hl : vs.length < sizeLine := by omega
    simp -implicitDefEqProofs [e1, hl, evS]) (0 :: 1 :: bits) ⟨fun x hx => by
      rcases List.mem_cons.mp hx with h | hx
      · omega
      · rcases List.mem_cons.mp hx with h | hx
        · omega
        · exact hbit x hx, by simp [hb]; omega⟩
  have z1 := z.1
  simp only [sem_net_values, semOf, startS, f_net_values]
  have hl : bits.length + 1 + 1 ≤ sizeLine := by omega
  have a1 : ∀ (x y : D) (ds : List D), atI [x, .tuple (gs.map gD), y] 1 = some (.tuple (gs.map gD)) := fun _ _ _ => rfl
  have e0 : PyData.int 0 :: PyData.int 1 :: bits.map nD = (0 :: 1 :: bits).map nD := rfl
  unfold netD at z1 ⊢
  have a2 := a1 (nD n) (.tuple (os.map nD)) []
  simp -implicitDefEqProofs only [List.map_cons] at z1
  have n0 : nD 0 = .int 0 := rfl
  have n1 : nD 1 = .int 1 := rfl
  rw [n0, n1] at z1
  simp -implicitDefEqProofs [hl, a2, z1, evalN]
theorem pick_map (vs os : List Nat) (e0 e1 e2 : Option Ent) : True := trivial
theorem net_told_ok {n : Nat} {gs : List Gate} {os : List Nat} {bits : List Nat} (hb : bits.length = n) (hbit : Bits bits) (ok : NetOk n gs) (ho : ∀ x ∈ os, x < 2 + n + gs.length) (hsz : n + gs.length ≤ 1000) (hos : os.length ≤ 1000) (w : Wst) :
    sem_net_told [netD n gs os, .tuple (bits.map nD)] w = .ret (.tuple ((os.map (nth (evalN gs bits))).map nD)) w := by
  have sl : (2000 : Nat) ≤ sizeLine := by decide
  obtain ⟨hv, hl⟩ := ev_inv hb hbit ok
  have e1 := net_values_ok (os := os) hb hbit ok hsz w
  have c := cmpD_pure (vs := [3]) (tg := gNm 3) (ft := fYes) (fe := fIxS 2 (fSlot 3)) nD (fun _ => true) (fun o => nD (nth (evalN gs bits) o)) ⟨[some (.val (netD n gs os)), some (.val (.tuple (bits.map nD))), some (.val (.list ((evalN gs bits).map nD))), none], w⟩ os (fun x hx => by
    have e := atI_nD (m := evalN gs bits) (x := x) (by rw [hl]; exact ho x hx)
    refine ⟨_, _, rfl, rfl, fun _ => ⟨⟨[some (.val (netD n gs os)), some (.val (.tuple (bits.map nD))), some (.val (.list ((evalN gs bits).map nD))), some (.val (nD x))], w⟩, ?_, rfl⟩, fun h => nomatch h⟩
    simp -implicitDefEqProofs [nD_eq] at e ⊢
    simp -implicitDefEqProofs [e]) 0 (by omega)
  rw [List.filter_eq_self.mpr (fun _ _ => rfl)] at c
  simp only [sem_net_told, semOf, startS, f_net_told]
  have a2 : atI [nD n, .tuple (gs.map gD), .tuple (os.map nD)] 2 = some (.tuple (os.map nD)) := rfl
  unfold netD at *
  simp -implicitDefEqProofs [e1, a2, c]
end Lk17
namespace Lk17
open PySem PySem.Spec L2 PD
open PyProof.Rows hiding St
/-! ### how deep -/
def lvl (ls : List Nat) (sg : List Nat) : Nat := (sg.map (nth ls)).foldl max 0
def lvS (ls : List Nat) (g : Gate) : List Nat := ls ++ [1 + lvl ls g.1]
theorem maxI_go : ∀ (l : List Nat) (a : Nat), (l.map fun n : Nat => (n : Int)).foldl (fun m y => if y > m then y else m) (a : Int) = ((l.foldl max a : Nat) : Int)
  | [], _ => rfl
  | x :: l, a => by
    rw [List.map_cons, List.foldl_cons, List.foldl_cons, ← maxI_go l (max a x)]
    congr 1
    by_cases h : (x : Int) > (a : Int)
    · rw [if_pos h, Nat.max_eq_right (by omega)]
    · rw [if_neg h, Nat.max_eq_left (by omega)]
theorem nD_ints (l : List Nat) : l.map nD = (l.map fun n : Nat => (n : Int)).map PyData.int := by rw [List.map_map]; rfl
theorem dMax_nD (l : List Nat) : dMax (.list (.int 0 :: l.map nD)) = some (nD (l.foldl max 0)) := by
  have e : (PyData.int 0 :: l.map nD) = ((0 : Int) :: l.map fun n : Nat => (n : Int)).map PyData.int := by rw [nD_ints]; rfl
  unfold dMax
  rw [e]
  simp only [intsD_map, Option.bind_some]
  rw [if_pos (by simp)]
  unfold maxI
  have z := maxI_go l 0
  have z0 : ((0 : Nat) : Int) = 0 := rfl
  rw [z0] at z
  simp only [z]
  rfl
def levN (n : Nat) (gs : List Gate) : List Nat := gs.foldl lvS (List.replicate (2 + n) 0)
theorem levN_len : ∀ (gs : List Gate) (ls : List Nat), (gs.foldl lvS ls).length = ls.length + gs.length
  | [], ls => rfl
  | g :: gs, ls => by rw [List.foldl_cons, levN_len gs]; unfold lvS; simp; omega
theorem levels_of_ok {n : Nat} {gs : List Gate} {os : List Nat} (ok : NetOk n gs) (hsz : n + gs.length ≤ 1000) (w : Wst) : sem_levels_of [netD n gs os] w = .ret (.list ((levN n gs).map nD)) w := by
  have sl : (2000 : Nat) ≤ sizeLine := by decide
  have z := forD_foldi (kl := [2, 3]) (tg := (gTp 2 (gCo (gNm 2) (gCo (gNm 3) gNo)))) (body := (sApp 1 (fBin dAddX (fC (.int 1)) (fB1 dMax (fFz (fLim (fCons (fC (.int 0)) (fStar (fFz (fComp [4] (fIt (fSlot 2)) (gNm 4) fYes (fIxS 1 (fSlot 4)))) fNil)))))))) gD (fun ls : List Nat => (⟨[some (.val (netD n gs os)), some (.own (ls.map nD)), none, none, none], w⟩ : S)) lvS (fun i ls => ls.length = 2 + n + i) gs 0 (fun i ls g hg h2 => by
    have hi : i < gs.length := by
      rcases Nat.lt_or_ge i gs.length with h | h
      · exact h
      · rw [List.getElem?_eq_none h] at hg; cases hg
    rw [Nat.zero_add] at h2 ⊢
    have og : GOk ls.length g := by rw [h2]; exact ok i g hg
    refine ⟨by unfold lvS; simp [h2]; omega, ⟨[some (.val (netD n gs os)), some (.own (ls.map nD)), some (.val (.tuple (g.1.map nD))), some (.val (.tuple (g.2.map nD))), none], w⟩, ⟨[some (.val (netD n gs os)), some (.own ((lvS ls g).map nD)), some (.val (.tuple (g.1.map nD))), some (.val (.tuple (g.2.map nD))), none], w⟩, rfl, .inl ?_, rfl⟩
    have c := cmpD_pure (vs := [4]) (tg := gNm 4) (ft := fYes) (fe := fIxS 1 (fSlot 4)) nD (fun _ => true) (fun o => nD (nth ls o)) ⟨[some (.val (netD n gs os)), some (.own (ls.map nD)), some (.val (.tuple (g.1.map nD))), some (.val (.tuple (g.2.map nD))), none], w⟩ g.1 (fun x hx => by
      have e := atI_nD (m := ls) (x := x) (og.sig x hx)
      refine ⟨_, _, rfl, rfl, fun _ => ⟨⟨[some (.val (netD n gs os)), some (.own (ls.map nD)), some (.val (.tuple (g.1.map nD))), some (.val (.tuple (g.2.map nD))), some (.val (nD x))], w⟩, ?_, rfl⟩, fun h => nomatch h⟩
      simp -implicitDefEqProofs [nD_eq] at e ⊢
      simp -implicitDefEqProofs [e]) 0 (by have := og.fan; omega)
    rw [List.filter_eq_self.mpr (fun _ _ => rfl)] at c
    have em := dMax_nD (g.1.map (nth ls))
    rw [List.map_map] at em
    have hl : ls.length < sizeLine := by omega
    have hl2 : g.1.length + 1 ≤ sizeLine := by have := og.fan; omega
    have e0 : (g.1.map fun o => nD (nth ls o)) = g.1.map (nD ∘ nth ls) := rfl
    rw [e0] at c
    have ea : dAddX (.int 1) (nD (lvl ls g.1)) = some (nD (1 + lvl ls g.1)) := rfl
    have el : (g.1.map (nth ls)).foldl max 0 = lvl ls g.1 := rfl
    rw [el] at em
    simp -implicitDefEqProofs [c, hl, hl2, em, ea, lvS]) (List.replicate (2 + n) 0) (by simp)
  have z1 := z.1
  simp only [sem_levels_of, semOf, startS, f_levels_of]
  have a0 : atI [nD n, .tuple (gs.map gD), .tuple (os.map nD)] 0 = some (nD n) := rfl
  have a1 : atI [nD n, .tuple (gs.map gD), .tuple (os.map nD)] 1 = some (.tuple (gs.map gD)) := rfl
  have er : repD [.int 0] (nD (2 + n)) = some ((List.replicate (2 + n) 0).map nD) := by
    rw [List.map_replicate]
    exact repD_nat (by omega)
  have ea : dAddX (.int 2) (nD n) = some (nD (2 + n)) := rfl
  have s1 : (1 : Nat) ≤ sizeLine := by decide
  unfold netD at z1 ⊢
  unfold levN
  generalize (List.replicate (2 + n) 0) = L0 at *
  simp -implicitDefEqProofs [a0, a1, er, ea, z1, s1]
end Lk17
namespace Lk17
open PySem PySem.Spec L2 PD
open PyProof.Rows hiding St
theorem next_nat (ns : List Int) (k : Int) (b : Nat) (hk : 0 ≤ k) (hb : 0 < b) : ∃ r : Nat, r < b ∧ sem__law_next [nD b] ⟨ns, k⟩ = .ret (nD r) ⟨ns, k + 1⟩ := by
  obtain ⟨r, h0, h1, e⟩ := next_ok ns k b hk (by omega)
  obtain ⟨n, rfl⟩ := Int.eq_ofNat_of_zero_le h0
  exact ⟨n, by omega, e⟩
/-- the drawn net: one gate -/
def nBody : FO := (sSeq (sAsg (fCallH 1 0 sem__law_next (fCons (fC (.int 4)) fNil)) (gNm 5))
    (sSeq (sAsg (fB1 dTup (fFz (fComp [7] (fR1 (fCons (fSlot 5) fNil)) (gNm 7) fYes (fCallH 1 0 sem__law_next (fCons (fBin dAddX (fBin dAddX (fC (.int 2)) (fSlot 1)) (fSlot 4)) fNil))))) (gNm 6))
    (sApp 3 (fTup (fCons (fSlot 6) (fCons (fB1 dTup (fFz (fComp [7] (fR1 (fCons (fBin dShl (fC (.int 1)) (fSlot 5)) fNil)) (gNm 7) fYes (fCallH 1 0 sem__law_next (fCons (fC (.int 2)) fNil))))) fNil))))))
theorem nBody_ok (ns : List Int) (k : Int) (hk : 0 ≤ k) (n m i : Nat) (gs : List Gate) (hgs : gs.length < 1000) : ∃ (g : Gate) (k' : Int) (s2 : S), 0 ≤ k' ∧ GOk (2 + n + i) g ∧ g.1.length ≤ 3 ∧
    nBody ⟨[some .hdl, some (.val (nD n)), some (.val (nD m)), some (.own (gs.map gD)), some (.val (nD i)), none, none, none], ⟨ns, k⟩⟩ = .nx s2 ∧
    kill [4, 5, 6] s2 = ⟨[some .hdl, some (.val (nD n)), some (.val (nD m)), some (.own ((gs ++ [g]).map gD)), none, none, none, none], ⟨ns, k'⟩⟩ := by
  have sl : (2000 : Nat) ≤ sizeLine := by decide
  have s2 : (2 : Nat) ≤ sizeLine := by decide
  obtain ⟨r, hr, e1⟩ := next_nat ns k 4 hk (by decide)
  have n4 : nD 4 = .int 4 := rfl
  have n2 : nD 2 = .int 2 := rfl
  rw [n4] at e1
  have ea : dAddX (.int 2) (nD n) = some (nD (2 + n)) := rfl
  have eb : dAddX (nD (2 + n)) (nD i) = some (nD (2 + n + i)) := rfl
  obtain ⟨sg, k1, hk1, hl1, hb1, c1⟩ := draws_list (vs := [7]) (j := 7) (fe := (fCallH 1 0 sem__law_next (fCons (fBin dAddX (fBin dAddX (fC (.int 2)) (fSlot 1)) (fSlot 4)) fNil))) (b := 2 + n + i)
    (fun k => ⟨[some .hdl, some (.val (nD n)), some (.val (nD m)), some (.own (gs.map gD)), some (.val (nD i)), some (.val (nD r)), none, none], ⟨ns, k⟩⟩) (fun k d hk => by
      obtain ⟨x, hx, e⟩ := next_nat ns k (2 + n + i) hk (by omega)
      refine ⟨x, hx, ⟨[some .hdl, some (.val (nD n)), some (.val (nD m)), some (.own (gs.map gD)), some (.val (nD i)), some (.val (nD r)), none, some (.val d)], ⟨ns, k + 1⟩⟩, ?_, rfl⟩
      simp -implicitDefEqProofs [ea, eb, e]) ((List.range r).map nD) (k + 1) 0 (by omega) (by simp; omega)
  obtain ⟨wd, k2, hk2, hl2, hb2, c2⟩ := draws_list (vs := [7]) (j := 7) (fe := (fCallH 1 0 sem__law_next (fCons (fC (.int 2)) fNil))) (b := 2)
    (fun k => ⟨[some .hdl, some (.val (nD n)), some (.val (nD m)), some (.own (gs.map gD)), some (.val (nD i)), some (.val (nD r)), some (.val (.tuple (sg.map nD))), none], ⟨ns, k⟩⟩) (fun k d hk => by
      obtain ⟨x, hx, e⟩ := next_nat ns k 2 hk (by decide)
      rw [n2] at e
      refine ⟨x, hx, ⟨[some .hdl, some (.val (nD n)), some (.val (nD m)), some (.own (gs.map gD)), some (.val (nD i)), some (.val (nD r)), some (.val (.tuple (sg.map nD))), some (.val d)], ⟨ns, k + 1⟩⟩, ?_, rfl⟩
      simp -implicitDefEqProofs [e]) ((List.range (2 ^ r)).map nD) k1 0 hk1 (by
        have : 2 ^ r ≤ 2 ^ 3 := Nat.pow_le_pow_right (by decide) (by omega)
        simp; omega)
  rw [List.length_map, List.length_range] at hl1 hl2
  have p3 : 2 ^ r ≤ 2 ^ 3 := Nat.pow_le_pow_right (by decide) (by omega)
  have r1 : rng1 (nD r) = some ((List.range r).map nD) := rng1_nat (by omega)
  have r2 : rng1 (nD (2 ^ r)) = some ((List.range (2 ^ r)).map nD) := rng1_nat (by omega)
  have sh : dShl (.int 1) (nD r) = some (nD (2 ^ r)) := shl1_nat r (by omega)
  refine ⟨(sg, wd), k2, ⟨[some .hdl, some (.val (nD n)), some (.val (nD m)), some (.own ((gs ++ [(sg, wd)]).map gD)), some (.val (nD i)), some (.val (nD r)), some (.val (.tuple (sg.map nD))), none], ⟨ns, k2⟩⟩, hk2, ⟨hb1, by rw [hl2, hl1], hb2, by rw [hl1]; omega⟩, by show sg.length ≤ 3; omega, ?_, rfl⟩
  have hgl : gs.length < sizeLine := by omega
  generalize 2 ^ r = P at *
  unfold nBody
  simp -implicitDefEqProofs [e1, r1, c1, sh, r2, c2, s2, hgl, gD]
theorem NetOk.snoc {n : Nat} {gs : List Gate} {g : Gate} (h : NetOk n gs) (hg : GOk (2 + n + gs.length) g) : NetOk n (gs ++ [g]) := fun i g' hi => by
  rcases Nat.lt_or_ge i gs.length with q | q
  · rw [List.getElem?_append_left q] at hi
    exact h i g' hi
  · rw [List.getElem?_append_right q] at hi
    have e : i = gs.length := by
      rcases Nat.lt_or_ge (i - gs.length) 1 with q2 | q2
      · omega
      · rw [List.getElem?_eq_none (by simpa using q2)] at hi; cases hi
    subst e
    rw [Nat.sub_self] at hi
    cases hi
    exact hg
theorem law_net_ok (ns : List Int) (k : Int) (hk : 0 ≤ k) (n m : Nat) (hm : m ≤ 500) (hn : n ≤ 500) : ∃ (gs : List Gate) (os : List Nat) (k' : Int), 0 ≤ k' ∧ NetOk n gs ∧ (∀ g ∈ gs, g.1.length ≤ 3) ∧ gs.length = m ∧ 1 ≤ os.length ∧ os.length ≤ 3 ∧ (∀ x ∈ os, x < 2 + n + m) ∧
    sem__law_net [nD n, nD m] ⟨ns, k⟩ = .ret (netD n gs os) ⟨ns, k'⟩ := by
  have sl : (2000 : Nat) ≤ sizeLine := by decide
  have s3 : (3 : Nat) ≤ sizeLine := by decide
  obtain ⟨⟨gs, k1⟩, e1, h1, h2, h3, h4⟩ := forD_ex (kl := [4, 5, 6]) (tg := gNm 4) (body := nBody) (fun p : List Gate × Int => (⟨[some .hdl, some (.val (nD n)), some (.val (nD m)), some (.own (p.1.map gD)), none, none, none, none], ⟨ns, p.2⟩⟩ : S)) (fun i p => p.1.length = i ∧ NetOk n p.1 ∧ 0 ≤ p.2 ∧ ∀ g ∈ p.1, g.1.length ≤ 3) ((List.range m).map nD) 0 (fun i p d hd ⟨h1, h2, h3, h4⟩ => by
    rw [Nat.zero_add] at h1 ⊢
    have hi : i < m := by
      rcases Nat.lt_or_ge i m with h | h
      · exact h
      · rw [List.getElem?_eq_none (by simpa using h)] at hd; cases hd
    have hdv : d = nD i := by
      rw [List.getElem?_map, List.getElem?_range hi] at hd
      exact (Option.some.inj hd).symm
    subst hdv
    obtain ⟨g, k', s2, hk', og, g3, e2, e3⟩ := nBody_ok ns p.2 h3 n m i p.1 (by omega)
    exact ⟨(p.1 ++ [g], k'), _, s2, ⟨by simp [h1], h2.snoc (by rw [h1]; exact og), hk', fun g' hg' => (List.mem_append.mp hg').elim (h4 g') fun q => by rw [List.mem_singleton.mp q]; exact g3⟩, rfl, .inl e2, e3⟩) ([], k) ⟨rfl, (fun i g h => by cases h), hk, (fun _ h => nomatch h)⟩
  rw [Nat.zero_add, List.length_map, List.length_range] at h1
  have ea : dAddX (.int 2) (nD n) = some (nD (2 + n)) := rfl
  have eb : dAddX (nD (2 + n)) (nD m) = some (nD (2 + n + m)) := rfl
  obtain ⟨r, hr, er⟩ := next_nat ns k1 3 h3 (by decide)
  have n3 : nD 3 = .int 3 := rfl
  rw [n3] at er
  have ec : dAddX (.int 1) (nD r) = some (nD (1 + r)) := rfl
  obtain ⟨os, k2, hk2, hl2, hb2, c2⟩ := draws_list (vs := [7]) (j := 7) (fe := (fCallH 1 0 sem__law_next (fCons (fBin dAddX (fBin dAddX (fC (.int 2)) (fSlot 1)) (fSlot 2)) fNil))) (b := 2 + n + m)
    (fun k => ⟨[some .hdl, some (.val (nD n)), some (.val (nD m)), some (.val (.list (gs.map gD))), none, none, none, none], ⟨ns, k⟩⟩) (fun k d hk => by
      obtain ⟨x, hx, e⟩ := next_nat ns k (2 + n + m) hk (by omega)
      refine ⟨x, hx, ⟨[some .hdl, some (.val (nD n)), some (.val (nD m)), some (.val (.list (gs.map gD))), none, none, none, some (.val d)], ⟨ns, k + 1⟩⟩, ?_, rfl⟩
      simp -implicitDefEqProofs [ea, eb, e]) ((List.range (1 + r)).map nD) (k1 + 1) 0 (by omega) (by simp; omega)
  rw [List.length_map, List.length_range] at hl2
  refine ⟨gs, os, k2, hk2, h2, h4, h1, by omega, by omega, hb2, ?_⟩
  have r1 : rng1 (nD m) = some ((List.range m).map nD) := rng1_nat (by omega)
  have r3 : rng1 (nD (1 + r)) = some ((List.range (1 + r)).map nD) := rng1_nat (by omega)
  have s0 : (0 : Nat) ≤ sizeLine := by decide
  have key : f__law_net = sSeq (sSetO 3 (fLim fNil)) (sSeq (sFor [4, 5, 6] (fR1 (fCons (fSlot 2) fNil)) (gNm 4) nBody) (sRet (fTup (fCons (fSlot 1) (fCons (fB1 dTup (fSlot 3)) (fCons (fB1 dTup (fFz (fComp [7] (fR1 (fCons (fBin dAddX (fC (.int 1)) (fCallH 1 0 sem__law_next (fCons (fC (.int 3)) fNil))) fNil)) (gNm 7) fYes (fCallH 1 0 sem__law_next (fCons (fBin dAddX (fBin dAddX (fC (.int 2)) (fSlot 1)) (fSlot 2)) fNil))))) fNil)))))) := rfl
  simp only [sem__law_net, semOf, startS, key]
  generalize nBody = NB at e1 ⊢
  generalize (List.range (1 + r)).map nD = R3 at c2 r3
  generalize (fCallH 1 0 sem__law_next (fCons (fBin dAddX (fBin dAddX (fC (.int 2)) (fSlot 1)) (fSlot 2)) fNil)) = FE at c2 ⊢
  simp only [List.map_nil] at e1
  simp -implicitDefEqProofs [s0, r1, e1, er, ec, r3, c2, s3, netD]
end Lk17
namespace Lk17
open PySem PySem.Spec L2 PD
open PyProof.Rows hiding St
/-! ### what stands at a gate's place -/
theorem nth_app {a b : List Nat} {k : Nat} (h : k < a.length) : nth (a ++ b) k = nth a k := by
  unfold nth
  rw [List.getD_eq_getElem?_getD, List.getD_eq_getElem?_getD, List.getElem?_append_left h]
theorem nth_snoc (a : List Nat) (x : Nat) : nth (a ++ [x]) a.length = x := by
  unfold nth
  rw [List.getD_eq_getElem?_getD, List.getElem?_append_right (Nat.le_refl _), Nat.sub_self]
  rfl
theorem fold_at (F : List Nat → Gate → Nat) (hF : ∀ a b g, (∀ x ∈ g.1, nth a x = nth b x) → F a g = F b g) : ∀ (l : List Gate) (vs : List Nat), (∀ j g, l[j]? = some g → ∀ x ∈ g.1, x < vs.length + j) →
    (∀ k, k < vs.length → nth (l.foldl (fun vs g => vs ++ [F vs g]) vs) k = nth vs k) ∧ ∀ j g, l[j]? = some g → nth (l.foldl (fun vs g => vs ++ [F vs g]) vs) (vs.length + j) = F (l.foldl (fun vs g => vs ++ [F vs g]) vs) g
  | [], vs, _ => ⟨fun _ _ => rfl, fun j g h => by cases h⟩
  | g :: l, vs, h => by
    have hl : (vs ++ [F vs g]).length = vs.length + 1 := by simp
    obtain ⟨i1, i2⟩ := fold_at F hF l (vs ++ [F vs g]) (fun j g' hj x hx => by
      have := h (j + 1) g' hj x hx
      rw [hl]; omega)
    rw [List.foldl_cons]
    generalize hR : l.foldl (fun vs g => vs ++ [F vs g]) (vs ++ [F vs g]) = R at *
    have p1 : ∀ k, k < vs.length → nth R k = nth vs k := fun k hk => by
      rw [i1 k (by rw [hl]; omega), nth_app hk]
    refine ⟨p1, fun j g' hj => ?_⟩
    cases j with
    | zero =>
      cases hj
      rw [Nat.add_zero, i1 vs.length (by rw [hl]; omega), nth_snoc]
      exact hF _ _ _ fun x hx => (p1 x (by have := h 0 g rfl x hx; omega)).symm
    | succ j =>
      have := i2 j g' hj
      rw [hl] at this
      rw [show vs.length + (j + 1) = vs.length + 1 + j by omega]
      exact this
theorem idxF_congr {a b : List Nat} : ∀ (sg : List Nat) (k : Nat), (∀ x ∈ sg, nth a x = nth b x) → idxF a k sg = idxF b k sg
  | [], _, _ => rfl
  | x :: sg, k, h => by
    unfold idxF
    rw [List.foldl_cons, List.foldl_cons, h x List.mem_cons_self]
    exact idxF_congr sg _ fun y hy => h y (List.mem_cons_of_mem _ hy)
theorem val_congr (a b : List Nat) (g : Gate) (h : ∀ x ∈ g.1, nth a x = nth b x) : val a g = val b g := by
  unfold val idx
  rw [idxF_congr g.1 0 h]
theorem lvl_congr (a b : List Nat) (g : Gate) (h : ∀ x ∈ g.1, nth a x = nth b x) : 1 + lvl a g.1 = 1 + lvl b g.1 := by
  unfold lvl
  rw [List.map_congr_left h]
theorem val_at {n : Nat} {gs : List Gate} {bits : List Nat} (hb : bits.length = n) (ok : NetOk n gs) {i : Nat} {g : Gate} (hg : gs[i]? = some g) : nth (evalN gs bits) (2 + n + i) = val (evalN gs bits) g := by
  have z := (fold_at val val_congr gs (0 :: 1 :: bits) (fun j g' hj x hx => by
    have := (ok j g' hj).sig x hx
    simp [hb]; omega)).2 i g hg
  have hl : (0 :: 1 :: bits).length = 2 + n := by simp [hb]; omega
  rw [hl] at z
  exact z
theorem lev_at {n : Nat} {gs : List Gate} (ok : NetOk n gs) {i : Nat} {g : Gate} (hg : gs[i]? = some g) : nth (levN n gs) (2 + n + i) = 1 + lvl (levN n gs) g.1 := by
  have z := (fold_at (fun ls g => 1 + lvl ls g.1) lvl_congr gs (List.replicate (2 + n) 0) (fun j g' hj x hx => by
    have := (ok j g' hj).sig x hx
    simp; omega)).2 i g hg
  rw [List.length_replicate] at z
  exact z
theorem lev_in {n : Nat} {gs : List Gate} (ok : NetOk n gs) {k : Nat} (hk : k < 2 + n) : nth (levN n gs) k = 0 := by
  have z := (fold_at (fun ls g => 1 + lvl ls g.1) lvl_congr gs (List.replicate (2 + n) 0) (fun j g' hj x hx => by
    have := (ok j g' hj).sig x hx
    simp; omega)).1 k (by simp; omega)
  refine Eq.trans z ?_
  unfold nth
  rw [List.getD_eq_getElem?_getD, List.getElem?_replicate]
  split <;> rfl
theorem le_fold_max : ∀ (l : List Nat) (a x : Nat), (x ∈ l ∨ x ≤ a) → x ≤ l.foldl max a
  | [], a, x, h => by rcases h with h | h; cases h; exact h
  | y :: l, a, x, h => by
    rw [List.foldl_cons]
    refine le_fold_max l _ x ?_
    rcases h with h | h
    · rcases List.mem_cons.mp h with rfl | h
      · exact .inr (Nat.le_max_right _ _)
      · exact .inl h
    · exact .inr (Nat.le_trans h (Nat.le_max_left _ _))
theorem le_lvl {ls sg : List Nat} {x : Nat} (h : x ∈ sg) : nth ls x ≤ lvl ls sg := le_fold_max _ _ _ (.inl (List.mem_map.mpr ⟨x, h, rfl⟩))
theorem fold_max_le : ∀ (l : List Nat) (a c : Nat), a ≤ c → (∀ x ∈ l, x ≤ c) → l.foldl max a ≤ c
  | [], a, c, h, _ => h
  | y :: l, a, c, h, h2 => by
    rw [List.foldl_cons]
    exact fold_max_le l _ c (Nat.max_le.mpr ⟨h, h2 y List.mem_cons_self⟩) fun x hx => h2 x (List.mem_cons_of_mem _ hx)
theorem nth_le {ls : List Nat} {c : Nat} (h : ∀ x ∈ ls, x ≤ c) (k : Nat) : nth ls k ≤ c := by
  rcases Nat.lt_or_ge k ls.length with q | q
  · exact h _ (nth_mem q)
  · unfold nth
    rw [List.getD_eq_getElem?_getD, List.getElem?_eq_none q]
    exact Nat.zero_le _
theorem lev_le : ∀ (gs : List Gate) (ls : List Nat) (c : Nat), (∀ x ∈ ls, x ≤ c) → ∀ x ∈ gs.foldl lvS ls, x ≤ c + gs.length
  | [], ls, c, h => h
  | g :: gs, ls, c, h => by
    rw [List.foldl_cons, List.length_cons, show c + (gs.length + 1) = c + 1 + gs.length by omega]
    refine lev_le gs (lvS ls g) (c + 1) fun x hx => ?_
    unfold lvS at hx
    rcases List.mem_append.mp hx with q | q
    · have := h x q; omega
    · rw [List.mem_singleton.mp q]
      have : lvl ls g.1 ≤ c := fold_max_le _ _ _ (Nat.zero_le _) fun x hx => by
        obtain ⟨y, _, rfl⟩ := List.mem_map.mp hx
        exact nth_le h y
      omega
/-! ### dicts -/
theorem lkD_put (es : List (Key × D)) (k k' : Key) (d : D) : lkD (putKD es k d) k' = if k' = k then some d else lkD es k' := by
  unfold putKD
  by_cases a : (es.any fun p => decide (p.1 = k)) = true
  · rw [if_pos a]
    induction es with
    | nil => simp at a
    | cons p es ih =>
      rw [List.map_cons]
      by_cases hk : p.1 = k
      · rw [if_pos hk]
        by_cases hk' : k' = k
        · subst hk'
          simp [lkD, List.find?_cons, hk]
        · have h1 : ¬ p.1 = k' := fun e => hk' (e ▸ hk)
          rw [if_neg hk']
          by_cases a2 : (es.any fun p => decide (p.1 = k)) = true
          · have := ih a2
            rw [if_neg hk'] at this
            simp only [lkD, List.find?_cons, hk] at this ⊢
            have h2 : ¬ k = k' := fun e => hk' e.symm
            simp only [h2, decide_false]
            exact this
          · have e0 : es.map (fun p => if p.1 = k then (p.1, d) else p) = es :=
              (List.map_congr_left (f := fun p => if p.1 = k then (p.1, d) else p) (g := id) fun p hp => if_neg fun e => a2 (List.any_eq_true.mpr ⟨p, hp, by simpa using e⟩)).trans (List.map_id es)
            rw [e0]
            have h2 : ¬ k = k' := fun e => hk' e.symm
            simp only [lkD, List.find?_cons, hk, h2, decide_false]
      · rw [if_neg hk]
        have a2 : (es.any fun p => decide (p.1 = k)) = true := by
          rw [List.any_cons] at a
          simpa [hk] using a
        have := ih a2
        by_cases h1 : p.1 = k'
        · have hk' : ¬ k' = k := fun e => hk (h1.trans e)
          rw [if_neg hk']
          simp [lkD, List.find?_cons, h1]
        · simp only [lkD, List.find?_cons, h1, decide_false] at this ⊢
          exact this
  · rw [if_neg a]
    have hno : ∀ p ∈ es, ¬ p.1 = k := fun p hp e => a (List.any_eq_true.mpr ⟨p, hp, by simpa using e⟩)
    unfold lkD
    rw [List.find?_append]
    by_cases hk' : k' = k
    · subst hk'
      rw [if_pos rfl]
      have : es.find? (fun p => decide (p.1 = k')) = none := List.find?_eq_none.mpr fun p hp => by simpa using hno p hp
      rw [this]
      simp [List.find?_cons]
    · rw [if_neg hk']
      have h2 : ¬ k = k' := fun e => hk' e.symm
      simp [List.find?_cons, h2]
theorem len_putKD (es : List (Key × D)) (k : Key) (d : D) : (putKD es k d).length ≤ es.length + 1 := by
  unfold putKD
  split
  · rw [List.length_map]; omega
  · rw [List.length_append]; simp
end Lk17
namespace Lk17
open PySem PySem.Spec L2 PD
open PyProof.Rows hiding St
def bitL (x m : Nat) : List Nat := (List.range m).map fun i => x / 2 ^ (m - 1 - i) % 2
theorem bits_of_ok (x m : Nat) (hm : m ≤ 1000) (w : Wst) : sem_bits_of [nD x, nD m] w = .ret (.tuple ((bitL x m).map nD)) w := by
  have sl : (2000 : Nat) ≤ sizeLine := by decide
  have c := cmpD_pure (vs := [2]) (tg := gNm 2) (ft := fYes) (fe := (fBin dAnd (fBin dShr (fSlot 0) (fBin dSub (fBin dSub (fSlot 1) (fC (.int 1))) (fSlot 2))) (fC (.int 1)))) nD (fun _ => true) (fun i => nD (x / 2 ^ (m - 1 - i) % 2)) ⟨[some (.val (nD x)), some (.val (nD m)), none], w⟩ (List.range m) (fun i hi => by
    have hi := List.mem_range.mp hi
    have n1 : PyData.int 1 = nD 1 := rfl
    have a1 : dSub (nD m) (nD 1) = some (nD (m - 1)) := dSub_nD (by omega)
    have a2 : dSub (nD (m - 1)) (nD i) = some (nD (m - 1 - i)) := dSub_nD (by omega)
    have a3 := dShr_nD x (m - 1 - i)
    have a4 := dAnd_nD (x / 2 ^ (m - 1 - i)) 1
    rw [and_one] at a4
    refine ⟨_, _, rfl, rfl, fun _ => ⟨⟨[some (.val (nD x)), some (.val (nD m)), some (.val (nD i))], w⟩, ?_, rfl⟩, fun h => nomatch h⟩
    simp -implicitDefEqProofs [n1, a1, a2, a3, a4]) 0 (by rw [List.length_range]; omega)
  rw [List.filter_eq_self.mpr (fun _ _ => rfl)] at c
  have r1 : rng1 (nD m) = some ((List.range m).map nD) := rng1_nat (by omega)
  simp only [sem_bits_of, semOf, startS, f_bits_of]
  have e : (bitL x m).map nD = (List.range m).map fun i => nD (x / 2 ^ (m - 1 - i) % 2) := by unfold bitL; rw [List.map_map]; rfl
  rw [e]
  simp -implicitDefEqProofs [r1, c]
def numF (l : List Nat) : Nat := l.foldl (fun a b => 2 * a + b) 0
theorem number_of_ok (l : List Nat) (w : Wst) : sem_number_of [.tuple (l.map nD)] w = .ret (nD (numF l)) w := by
  have z := forD_fold (kl := [2]) (tg := gNm 2) (body := (sAsg (fBin dAddX (fBin dMul (fC (.int 2)) (fSlot 1)) (fSlot 2)) (gNm 1))) nD (fun a : Nat => (⟨[some (.val (.tuple (l.map nD))), some (.val (nD a)), none], w⟩ : S)) (fun a b => 2 * a + b) (fun _ => True) l (fun a b _ _ => by
    have e1 : dMul (.int 2) (nD a) = some (nD (2 * a)) := dMul_nat_l (by decide)
    have e2 : dAddX (nD (2 * a)) (nD b) = some (nD (2 * a + b)) := rfl
    refine ⟨trivial, _, ⟨[some (.val (.tuple (l.map nD))), some (.val (nD (2 * a + b))), some (.val (nD b))], w⟩, rfl, .inl ?_, rfl⟩
    simp -implicitDefEqProofs [e1, e2]) 0 trivial
  have z1 := z.1
  have n0 : nD 0 = .int 0 := rfl
  rw [n0] at z1
  simp only [sem_number_of, semOf, startS, f_number_of]
  simp -implicitDefEqProofs [z1, numF]
theorem number_of_okL (l : List Nat) (w : Wst) : sem_number_of [.list (l.map nD)] w = .ret (nD (numF l)) w := by
  have z := forD_fold (kl := [2]) (tg := gNm 2) (body := (sAsg (fBin dAddX (fBin dMul (fC (.int 2)) (fSlot 1)) (fSlot 2)) (gNm 1))) nD (fun a : Nat => (⟨[some (.val (.list (l.map nD))), some (.val (nD a)), none], w⟩ : S)) (fun a b => 2 * a + b) (fun _ => True) l (fun a b _ _ => by
    have e1 : dMul (.int 2) (nD a) = some (nD (2 * a)) := dMul_nat_l (by decide)
    have e2 : dAddX (nD (2 * a)) (nD b) = some (nD (2 * a + b)) := rfl
    refine ⟨trivial, _, ⟨[some (.val (.list (l.map nD))), some (.val (nD (2 * a + b))), some (.val (nD b))], w⟩, rfl, .inl ?_, rfl⟩
    simp -implicitDefEqProofs [e1, e2]) 0 trivial
  have z1 := z.1
  have n0 : nD 0 = .int 0 := rfl
  rw [n0] at z1
  simp only [sem_number_of, semOf, startS, f_number_of]
  simp -implicitDefEqProofs [z1, numF]
theorem numF_snoc (l : List Nat) (b : Nat) : numF (l ++ [b]) = 2 * numF l + b := by
  unfold numF
  rw [List.foldl_append]
  rfl
theorem bitL_succ (x m : Nat) : bitL x (m + 1) = bitL (x / 2) m ++ [x % 2] := by
  unfold bitL
  rw [List.range_succ, List.map_append]
  congr 1
  · refine List.map_congr_left fun i hi => ?_
    have hi := List.mem_range.mp hi
    rw [show m + 1 - 1 - i = (m - 1 - i) + 1 by omega, Nat.pow_succ, Nat.mul_comm, Nat.div_div_eq_div_mul]
  · simp
theorem bitL_num (bs : List Nat) (h : ∀ b ∈ bs, b < 2) : bitL (numF bs) bs.length = bs := by
  have key : ∀ (l : List Nat), (∀ b ∈ l, b < 2) → bitL (numF l.reverse) l.length = l.reverse := by
    intro l
    induction l with
    | nil => intro _; rfl
    | cons b l ih =>
      intro h
      have hb := h b List.mem_cons_self
      rw [List.reverse_cons, numF_snoc, List.length_cons, bitL_succ, show (2 * numF l.reverse + b) / 2 = numF l.reverse by omega, show (2 * numF l.reverse + b) % 2 = b by omega, ih fun y hy => h y (List.mem_cons_of_mem _ hy)]
  have z := key bs.reverse fun b hb => h b (List.mem_reverse.mp hb)
  rwa [List.reverse_reverse, List.length_reverse] at z
theorem numF_lt : ∀ (l : List Nat), (∀ b ∈ l, b < 2) → numF l < 2 ^ l.length := fun l h => by
  have key : ∀ (l : List Nat) (a k : Nat), (∀ b ∈ l, b < 2) → a < 2 ^ k → l.foldl (fun a b => 2 * a + b) a < 2 ^ (k + l.length) := by
    intro l
    induction l with
    | nil => intro a k _ h; exact h
    | cons b l ih =>
      intro a k h ha
      have hb := h b List.mem_cons_self
      rw [List.foldl_cons, List.length_cons, show k + (l.length + 1) = k + 1 + l.length by omega]
      exact ih _ _ (fun y hy => h y (List.mem_cons_of_mem _ hy)) (by rw [Nat.pow_succ]; omega)
  have z := key l 0 0 h (by decide)
  rw [Nat.zero_add] at z
  exact z
theorem bitL_len (x m : Nat) : (bitL x m).length = m := by unfold bitL; simp
theorem bitL_bit (x m : Nat) : ∀ b ∈ bitL x m, b < 2 := fun b hb => by
  obtain ⟨i, _, rfl⟩ := List.mem_map.mp hb
  omega
end Lk17
namespace Lk17
open PySem PySem.Spec L2 PD
open PyProof.Rows hiding St
abbrev GateI := List Int × List Int
def gI (g : GateI) : D := .tuple [.tuple (g.1.map PyData.int), .tuple (g.2.map PyData.int)]
def chk (fan n : Nat) (p : GateI × Nat) : Bool :=
  decide (p.1.1.length ≤ fan) && ((p.1.1.all fun x => decide (0 ≤ x) && decide (x < 2 + n + p.2)) && (decide (p.1.2.length = 2 ^ p.1.1.length) && p.1.2.all fun x => x == 0 || x == 1))
def cBody : FO := (sSeq (sIf (fOr (fNot (tVal (fB1 (dIsi "tuple") (fSlot 6)))) (fOr (tVal (fBin dNe (fLenS 6) (fC (.int 2)))) (tVal (fBin dGt (fLen (fIxS 6 (fC (.int 0)))) (fSlot 1))))) (sRaise 0 2 (fCons (fSlot 5) (fCons (fC (.str "fan")) fNil))) sNil)
    (sSeq (sIf (fNot (tVal (fB1 dAll (fFz (fComp [7] (fIt (fIxS 6 (fC (.int 0)))) (gNm 7) fYes (fChain dLe dLt (fC (.int 0)) (fSlot 7) (fBin dAddX (fBin dAddX (fC (.int 2)) (fSlot 2)) (fSlot 5)))))))) (sRaise 0 2 (fCons (fSlot 5) (fCons (fC (.str "order")) fNil))) sNil)
    (sIf (fOr (tVal (fBin dNe (fLen (fIxS 6 (fC (.int 1)))) (fBin dShl (fC (.int 1)) (fLen (fIxS 6 (fC (.int 0))))))) (fNot (tVal (fB1 dAll (fFz (fComp [8] (fIt (fIxS 6 (fC (.int 1)))) (gNm 8) fYes (fBin dIn (fSlot 8) (fTup (fCons (fC (.int 0)) (fCons (fC (.int 1)) fNil)))))))))) (sRaise 0 2 (fCons (fSlot 5) (fCons (fC (.str "words")) fNil))) sNil)))
theorem blsD_map : ∀ l : List Bool, blsD (l.map PyData.bool) = some l
  | [] => rfl
  | b :: l => by simp [blsD, blD, blsD_map l]
theorem dAll_map {α : Type} (l : List α) (f : α → Bool) : dAll (.list (l.map fun x => .bool (f x))) = some (.bool (l.all f)) := by
  have e : (l.map fun x => PyData.bool (f x)) = (l.map f).map PyData.bool := by rw [List.map_map]; rfl
  unfold dAll
  rw [e]
  simp only [blsD_map, Option.map_some]
  congr 2
  rw [List.all_map]
  rfl
theorem chain_ok (i : Nat) (lo x hi : Int) (f : FE) (s : S) (hx : s.ρ[i]? = some (some (.val (.int x)))) (hf : f s = .ok (.int hi) s) : fChain dLe dLt (fC (.int lo)) (fSlot i) f s = .ok (.bool (decide (lo ≤ x) && decide (x < hi))) s := by
  unfold fChain
  simp only [fC_s, R.bind_ok, fSlot_s, rdSlot_s, hx, rdE_val, dLe_ii, hf, dLt_ii]
  by_cases h : lo ≤ x
  · simp [h]
  · simp [h]
theorem in01 (x : Int) : dIn (.int x) (.tuple [.int 0, .int 1]) = some (.bool (x == 0 || x == 1)) := by
  have e : dIn (.int x) (.tuple [.int 0, .int 1]) = dIn (.int x) (.list ([0, 1].map PyData.int)) := rfl
  rw [e, dIn_int]
  congr 2
  by_cases h : x = 0
  · subst h; rfl
  · by_cases h1 : x = 1
    · subst h1; rfl
    · simp [h, h1]
theorem cBody_ok (e0 e3 e4 : Option Ent) (fan n : Nat) (w : Wst) (g : GateI) (i : Nat) (hl : g.1.length ≤ 20) (hl2 : g.2.length ≤ 1000) :
    let s1 : S := ⟨[e0, some (.val (nD fan)), some (.val (nD n)), e3, e4, some (.val (nD i)), some (.val (gI g)), none, none], w⟩
    (chk fan n (g, i) = true → cBody s1 = .nx s1) ∧ (chk fan n (g, i) = false → ∃ why, cBody s1 = .exc 0 [nD i, why] s1) := by
  intro s1
  have sl : (2000 : Nat) ≤ sizeLine := by decide
  have s2 : (2 : Nat) ≤ sizeLine := by decide
  have a0 : atI [PyData.tuple (g.1.map PyData.int), .tuple (g.2.map PyData.int)] 0 = some (.tuple (g.1.map PyData.int)) := rfl
  have a1 : atI [PyData.tuple (g.1.map PyData.int), .tuple (g.2.map PyData.int)] 1 = some (.tuple (g.2.map PyData.int)) := rfl
  have c1 := cmpD_pure (vs := [7]) (tg := gNm 7) (ft := fYes) (fe := (fChain dLe dLt (fC (.int 0)) (fSlot 7) (fBin dAddX (fBin dAddX (fC (.int 2)) (fSlot 2)) (fSlot 5)))) PyData.int (fun _ => true) (fun x => .bool (decide (0 ≤ x) && decide (x < 2 + (n : Int) + (i : Int)))) s1 g.1 (fun x hx => by
    refine ⟨_, _, rfl, rfl, fun _ => ⟨⟨[e0, some (.val (nD fan)), some (.val (nD n)), e3, e4, some (.val (nD i)), some (.val (gI g)), some (.val (.int x)), none], w⟩, ?_, rfl⟩, fun h => nomatch h⟩
    exact chain_ok 7 0 x (2 + (n : Int) + (i : Int)) _ _ rfl (by simp -implicitDefEqProofs [s1, nD_eq])) 0 (by omega)
  have c2 := cmpD_pure (vs := [8]) (tg := gNm 8) (ft := fYes) (fe := (fBin dIn (fSlot 8) (fTup (fCons (fC (.int 0)) (fCons (fC (.int 1)) fNil))))) PyData.int (fun _ => true) (fun x => .bool (x == 0 || x == 1)) s1 g.2 (fun x hx => by
    refine ⟨_, _, rfl, rfl, fun _ => ⟨⟨[e0, some (.val (nD fan)), some (.val (nD n)), e3, e4, some (.val (nD i)), some (.val (gI g)), none, some (.val (.int x))], w⟩, ?_, rfl⟩, fun h => nomatch h⟩
    have e := in01 x
    simp -implicitDefEqProofs [s1, s2, e]) 0 (by omega)
  rw [List.filter_eq_self.mpr (fun _ _ => rfl)] at c1 c2
  have d1 := dAll_map g.1 fun x => decide (0 ≤ x) && decide (x < 2 + (n : Int) + (i : Int))
  have d2 := dAll_map g.2 fun x => x == 0 || x == 1
  have sh := shl1_nat g.1.length (by omega)
  have ty : dIsi "tuple" (gI g) = some (.bool true) := rfl
  have tl : lenD (gI g) = some 2 := rfl
  have ix0 : dIx (gI g) (.int 0) = some (.tuple (g.1.map PyData.int)) := rfl
  have ix1 : dIx (gI g) (.int 1) = some (.tuple (g.2.map PyData.int)) := rfl
  unfold chk
  dsimp only
  generalize hA : (g.1.all fun x => decide (0 ≤ x) && decide (x < 2 + (n : Int) + (i : Int))) = A at *
  generalize hB : (g.2.all fun x => x == 0 || x == 1) = B at *
  have fnD : ∀ m : Nat, nD m = .int (m : Int) := fun _ => rfl
  unfold cBody
  by_cases hf : g.1.length ≤ fan
  · have hf' : ¬ fan < g.1.length := by omega
    cases A with
    | false =>
      refine ⟨fun h => by simp at h, fun _ => ⟨.str "order", ?_⟩⟩
      simp only [s1, fnD] at c1 ⊢
      simp -implicitDefEqProofs [ty, tl, ix0, hf', c1, d1, sRaise]
    | true =>
      by_cases hlen : g.2.length = 2 ^ g.1.length
      · have e5 : dNe (.int (g.2.length : Int)) (.int ((2 ^ g.1.length : Nat) : Int)) = some (.bool false) := by rw [hlen]; simp
        cases B with
        | true =>
          refine ⟨fun _ => ?_, fun h => by simp [hf, hlen] at h⟩
          generalize 2 ^ g.1.length = P at *
          simp only [s1, fnD] at c1 c2 ⊢
          simp -implicitDefEqProofs [ty, tl, ix0, ix1, hf', c1, d1, sRaise, sh, hlen, c2, d2]
        | false =>
          refine ⟨fun h => by simp at h, fun _ => ⟨.str "words", ?_⟩⟩
          generalize 2 ^ g.1.length = P at *
          simp only [s1, fnD] at c1 c2 ⊢
          simp -implicitDefEqProofs [ty, tl, ix0, ix1, hf', c1, d1, sRaise, sh, hlen, c2, d2]
      · have e5 : ((g.2.length : Int) == ((2 ^ g.1.length : Nat) : Int)) = false := by
          rw [beq_eq_false_iff_ne]
          intro h
          exact hlen (Int.ofNat.inj h)
        refine ⟨fun h => by simp [hlen] at h, fun _ => ⟨.str "words", ?_⟩⟩
        generalize 2 ^ g.1.length = P at *
        have hlen' : ¬ ((g.2.length : Int) = (P : Int)) := by omega
        simp only [s1, fnD] at c1 c2 ⊢
        simp -implicitDefEqProofs [ty, tl, ix0, ix1, hf', c1, d1, sRaise, sh, hlen', c2, d2]
  · have hf' : fan < g.1.length := by omega
    refine ⟨fun h => by simp [hf] at h, fun _ => ⟨.str "fan", ?_⟩⟩
    simp only [s1, fnD]
    simp -implicitDefEqProofs [ty, tl, ix0, hf', sRaise]
theorem forD_find {β : Type} {kl : List Nat} {tg : FG} {body : FO} (v : β → D) (ok : β → Bool) (f : β → D) (st : S) : ∀ (xs : List β),
    (∀ x ∈ xs, ∃ s1, tg (v x) st = some s1 ∧ (ok x = true → ∃ s2, body s1 = .nx s2 ∧ kill kl s2 = st) ∧ (ok x = false → ∃ why s2, body s1 = .exc 0 [f x, why] s2 ∧ s2.w = st.w)) →
    (xs.find? (fun x => !ok x) = none → forD kl tg body (xs.map v) st = .nx st) ∧ (∀ x, xs.find? (fun x => !ok x) = some x → ∃ why s2, forD kl tg body (xs.map v) st = .exc 0 [f x, why] s2 ∧ s2.w = st.w)
  | [], _ => ⟨fun _ => rfl, fun _ h => nomatch h⟩
  | x :: xs, h => by
    obtain ⟨s1, e1, h1, h2⟩ := h x List.mem_cons_self
    have ih := forD_find v ok f st xs fun y hy => h y (List.mem_cons_of_mem _ hy)
    cases hx : ok x with
    | true =>
      obtain ⟨s2, e2, e3⟩ := h1 hx
      have z : forD kl tg body ((x :: xs).map v) st = forD kl tg body (xs.map v) st := by
        rw [List.map_cons, forD, e1]
        dsimp only
        rw [e2]
        dsimp only
        rw [e3]
      rw [List.find?_cons, hx, z]
      exact ih
    | false =>
      obtain ⟨why, s2, e2, ew⟩ := h2 hx
      rw [List.find?_cons, hx]
      refine ⟨(fun q => nomatch q), fun y q => ?_⟩
      cases q
      refine ⟨why, s2, ?_, ew⟩
      rw [List.map_cons, forD, e1]
      dsimp only
      rw [e2]
def netI (n : Nat) (gs : List GateI) (os : List Int) : D := .tuple [nD n, .tuple (gs.map gI), .tuple (os.map PyData.int)]
theorem enumFrom_any {α : Type} (v : α → D) : ∀ (l : List α) (k : Nat), enumFrom (k : Int) (l.map v) = (l.zipIdx k).map fun p => .tuple [nD p.2, v p.1]
  | [], _ => rfl
  | x :: l, k => by
    have z := enumFrom_any v l (k + 1)
    rw [List.map_cons, enumFrom, List.zipIdx_cons, List.map_cons, ← z]
    rfl
end Lk17
namespace Lk17
open PySem PySem.Spec L2 PD
open PyProof.Rows hiding St
def osOk (n m : Nat) (os : List Int) : Bool := os.all fun x => decide (0 ≤ x) && decide (x < 2 + (n : Int) + (m : Int))
theorem check_ok {n fan : Nat} {gs : List GateI} {os : List Int} (hg : ∀ g ∈ gs, g.1.length ≤ 20 ∧ g.2.length ≤ 1000) (hos : os.length ≤ 1000) (w : Wst) :
    (∀ p, (gs.zipIdx 0).find? (fun p => !chk fan n p) = some p → ∃ why, sem_check_net [netI n gs os, nD fan] w = .exc 0 [nD p.2, why] w) ∧
    ((gs.zipIdx 0).find? (fun p => !chk fan n p) = none → (osOk n gs.length os = true → sem_check_net [netI n gs os, nD fan] w = .ret .none w) ∧ (osOk n gs.length os = false → ∃ why, sem_check_net [netI n gs os, nD fan] w = .exc 0 [nD gs.length, why] w)) := by
  have sl : (2000 : Nat) ≤ sizeLine := by decide
  let st : S := ⟨[some (.val (netI n gs os)), some (.val (nD fan)), some (.val (nD n)), some (.val (.tuple (gs.map gI))), some (.val (.tuple (os.map PyData.int))), none, none, none, none], w⟩
  have F := forD_find (kl := [5, 6]) (tg := (gTp 2 (gCo (gNm 5) (gCo (gNm 6) gNo)))) (body := cBody) (fun p : GateI × Nat => (.tuple [nD p.2, gI p.1] : D)) (chk fan n) (fun p => nD p.2) st (gs.zipIdx 0) (fun p hp => by
    have hm : p.1 ∈ gs := by
      obtain ⟨h1, h2, h3⟩ := List.mem_zipIdx hp
      rw [h3]; exact List.getElem_mem _
    obtain ⟨h1, h2⟩ := cBody_ok (some (.val (netI n gs os))) (some (.val (.tuple (gs.map gI)))) (some (.val (.tuple (os.map PyData.int)))) fan n w p.1 p.2 (hg _ hm).1 (hg _ hm).2
    refine ⟨_, rfl, fun q => ⟨_, h1 q, rfl⟩, fun q => ?_⟩
    obtain ⟨why, e⟩ := h2 q
    exact ⟨why, _, e, rfl⟩)
  have ee : enumFrom 0 (gs.map gI) = (gs.zipIdx 0).map fun p => .tuple [nD p.2, gI p.1] := enumFrom_any gI gs 0
  have c1 := cmpD_pure (vs := [7]) (tg := gNm 7) (ft := fYes) (fe := (fChain dLe dLt (fC (.int 0)) (fSlot 7) (fBin dAddX (fBin dAddX (fC (.int 2)) (fSlot 2)) (fLenS 3)))) PyData.int (fun _ => true) (fun x => .bool (decide (0 ≤ x) && decide (x < 2 + (n : Int) + (gs.length : Int)))) st os (fun x hx => by
    refine ⟨_, _, rfl, rfl, fun _ => ⟨⟨[some (.val (netI n gs os)), some (.val (nD fan)), some (.val (nD n)), some (.val (.tuple (gs.map gI))), some (.val (.tuple (os.map PyData.int))), none, none, some (.val (.int x)), none], w⟩, ?_, rfl⟩, fun h => nomatch h⟩
    exact chain_ok 7 0 x (2 + (n : Int) + (gs.length : Int)) _ _ rfl (by simp -implicitDefEqProofs [st, nD_eq])) 0 (by omega)
  rw [List.filter_eq_self.mpr (fun _ _ => rfl)] at c1
  have d1 := dAll_map os fun x => decide (0 ≤ x) && decide (x < 2 + (n : Int) + (gs.length : Int))
  have hO : (os.all fun x => decide (0 ≤ x) && decide (x < 2 + (n : Int) + (gs.length : Int))) = osOk n gs.length os := rfl
  rw [hO] at d1
  generalize osOk n gs.length os = B at *
  have key : f_check_net = sSeq (sAsg (fSlot 0) (gTp 3 (gCo (gNm 2) (gCo (gNm 3) (gCo (gNm 4) gNo))))) (sSeq (sFor [5, 6] (fEnum (fSlot 3)) (gTp 2 (gCo (gNm 5) (gCo (gNm 6) gNo))) cBody)
    (sIf (fNot (tVal (fB1 dAll (fFz (fComp [7] (fIt (fSlot 4)) (gNm 7) fYes (fChain dLe dLt (fC (.int 0)) (fSlot 7) (fBin dAddX (fBin dAddX (fC (.int 2)) (fSlot 2)) (fLenS 3)))))))) (sRaise 0 2 (fCons (fLenS 3) (fCons (fC (.str "outputs")) fNil))) sNil)) := rfl
  have tail : ∀ o, forD [5, 6] (gTp 2 (gCo (gNm 5) (gCo (gNm 6) gNo))) cBody ((gs.zipIdx 0).map fun p => .tuple [nD p.2, gI p.1]) st = o → sem_check_net [netI n gs os, nD fan] w = outF (o.seq (sIf (fNot (tVal (fB1 dAll (fFz (fComp [7] (fIt (fSlot 4)) (gNm 7) fYes (fChain dLe dLt (fC (.int 0)) (fSlot 7) (fBin dAddX (fBin dAddX (fC (.int 2)) (fSlot 2)) (fLenS 3)))))))) (sRaise 0 2 (fCons (fLenS 3) (fCons (fC (.str "outputs")) fNil))) sNil)) := by
    intro o ho
    simp only [sem_check_net, semOf, startS, key]
    generalize cBody = CB at ho ⊢
    generalize (sIf (fNot (tVal (fB1 dAll (fFz (fComp [7] (fIt (fSlot 4)) (gNm 7) fYes (fChain dLe dLt (fC (.int 0)) (fSlot 7) (fBin dAddX (fBin dAddX (fC (.int 2)) (fSlot 2)) (fLenS 3)))))))) (sRaise 0 2 (fCons (fLenS 3) (fCons (fC (.str "outputs")) fNil))) sNil) = TL
    simp only [st, netI] at ho ⊢
    simp -implicitDefEqProofs [ee, ho]
  refine ⟨fun p hp => ?_, fun hn => ?_⟩
  · obtain ⟨why, s2, e, ew⟩ := F.2 p hp
    refine ⟨why, ?_⟩
    rw [tail _ e]
    show FR.exc 0 [nD p.2, why] s2.w = _
    rw [ew]
  · have e := F.1 hn
    rw [tail _ e]
    simp only [st] at c1 ⊢
    refine ⟨fun hB => ?_, fun hB => ⟨.str "outputs", ?_⟩⟩
    · subst hB
      simp -implicitDefEqProofs [c1, d1]
    · subst hB
      simp -implicitDefEqProofs [c1, d1, sRaise]
      rfl
end Lk17
namespace Lk17
open PySem PySem.Spec L2 PD
open PyProof.Rows hiding St
/-! ### gates by functions of signals -/
def gval (ρ : Nat → Nat) (g : Gate) : Nat := nth g.2 (numF (g.1.map ρ))
structure Env (ρ : Nat → Nat) : Prop where
  z : ρ 0 = 0
  o : ρ 1 = 1
  b : ∀ x, ρ x < 2
def envOf (sg bs : List Nat) (s : Nat) : Nat := if s = 0 then 0 else if s = 1 then 1 else nth bs (sg.idxOf s)
theorem nth_map {f : Nat → Nat} {l : List Nat} {i : Nat} (h : i < l.length) : nth (l.map f) i = f (nth l i) := by
  rw [nth_lt (by rw [List.length_map]; exact h), nth_lt h, List.getElem_map]
theorem envOf_map {ρ : Nat → Nat} (e : Env ρ) {sg : List Nat} {s : Nat} (h : s ∈ sg ∨ s ≤ 1) : envOf sg (sg.map ρ) s = ρ s := by
  unfold envOf
  by_cases h0 : s = 0
  · rw [if_pos h0, h0, e.z]
  · rw [if_neg h0]
    by_cases h1 : s = 1
    · rw [if_pos h1, h1, e.o]
    · rw [if_neg h1]
      have hs : s ∈ sg := h.resolve_right (by omega)
      have hi := List.idxOf_lt_length_of_mem hs
      rw [nth_map hi, nth_lt hi, List.getElem_idxOf]
theorem envOf_env {sg bs : List Nat} (h : ∀ b ∈ bs, b < 2) : Env (envOf sg bs) := by
  refine ⟨rfl, rfl, fun x => ?_⟩
  unfold envOf
  split
  · decide
  · split
    · decide
    · rcases Nat.lt_or_ge (sg.idxOf x) bs.length with q | q
      · exact h _ (nth_mem q)
      · unfold nth
        rw [List.getD_eq_getElem?_getD, List.getElem?_eq_none q]
        decide
def tab (F : (Nat → Nat) → Nat) (sg : List Nat) : Gate := (sg, (List.range (2 ^ sg.length)).map fun x => F (envOf sg (bitL x sg.length)))
theorem map_bit {ρ : Nat → Nat} (e : Env ρ) (sg : List Nat) : ∀ b ∈ sg.map ρ, b < 2 := fun b hb => by
  obtain ⟨x, _, rfl⟩ := List.mem_map.mp hb
  exact e.b x
theorem tab_val {F : (Nat → Nat) → Nat} {sg : List Nat} (hF : ∀ a b : Nat → Nat, Env a → Env b → (∀ x, x ∈ sg ∨ x ≤ 1 → a x = b x) → F a = F b) {ρ : Nat → Nat} (e : Env ρ) : gval ρ (tab F sg) = F ρ := by
  have hb := map_bit e sg
  have hlt := numF_lt _ hb
  have hn := bitL_num _ hb
  rw [List.length_map] at hlt hn
  unfold gval tab
  dsimp only
  have z : nth ((List.range (2 ^ sg.length)).map fun x => F (envOf sg (bitL x sg.length))) (numF (sg.map ρ)) = F (envOf sg (bitL (numF (sg.map ρ)) sg.length)) := by
    rw [nth_lt (by rw [List.length_map, List.length_range]; exact hlt), List.getElem_map, List.getElem_range]
  rw [z, hn]
  exact hF _ _ (envOf_env hb) e fun x hx => envOf_map e hx
/-- a gate made anew: its signals are those above 1 of S, ascending; its value is F -/
structure Rep (g : Gate) (S : Nat → Prop) (F : (Nat → Nat) → Nat) : Prop where
  asc : g.1.Pairwise (· < ·)
  mem : ∀ x, x ∈ g.1 ↔ S x ∧ 1 < x
  len : g.2.length = 2 ^ g.1.length
  bit : ∀ x ∈ g.2, x < 2
  val : ∀ ρ, Env ρ → gval ρ g = F ρ
theorem tab_rep {F : (Nat → Nat) → Nat} {sg : List Nat} {S : Nat → Prop} (h1 : sg.Pairwise (· < ·)) (h2 : ∀ x, x ∈ sg ↔ S x ∧ 1 < x) (hF : ∀ a b : Nat → Nat, Env a → Env b → (∀ x, S x ∨ x ≤ 1 → a x = b x) → F a = F b) (hb : ∀ ρ, Env ρ → F ρ < 2) : Rep (tab F sg) S F :=
  ⟨h1, h2, by unfold tab; simp, fun x hx => by
    obtain ⟨y, _, rfl⟩ := List.mem_map.mp (show x ∈ (List.range (2 ^ sg.length)).map fun x => F (envOf sg (bitL x sg.length)) from hx)
    exact hb _ (envOf_env (bitL_bit _ _)), fun ρ e => tab_val (fun a b ea eb h => hF a b ea eb fun x hx => by
      rcases hx with hx | hx
      · by_cases q : 1 < x
        · exact h x (.inl ((h2 x).mpr ⟨hx, q⟩))
        · exact h x (.inr (by omega))
      · exact h x (.inr hx)) e⟩
theorem gval_congr {a b : Nat → Nat} {g : Gate} (h : ∀ x ∈ g.1, a x = b x) : gval a g = gval b g := by
  unfold gval
  rw [List.map_congr_left h]
theorem gval_lt {ρ : Nat → Nat} (e : Env ρ) {g : Gate} (hl : g.2.length = 2 ^ g.1.length) (hb : ∀ x ∈ g.2, x < 2) : gval ρ g < 2 := by
  have h := numF_lt _ (map_bit e g.1)
  rw [List.length_map, ← hl] at h
  exact hb _ (nth_mem h)
theorem gval_val (vals : List Nat) (g : Gate) : gval (nth vals) g = val vals g := by
  unfold gval val idx idxF numF
  rw [List.foldl_map]
/-! ### sorted without repeats -/
def castL (l : List Nat) : List Int := l.map fun n : Nat => (n : Int)
theorem castL_map (l : List Nat) : (castL l).map PyData.int = l.map nD := by
  unfold castL
  rw [List.map_map]
  rfl
theorem cast_of {l : List Int} (h : ∀ x ∈ l, 0 ≤ x) : ∃ m : List Nat, l = castL m := ⟨l.map Int.toNat, by
  unfold castL
  rw [List.map_map]
  refine (List.map_id l).symm.trans (List.map_congr_left fun x hx => ?_)
  have := h x hx
  show x = ((x.toNat : Nat) : Int)
  omega⟩
theorem mem_castL {l : List Nat} {x : Nat} : (x : Int) ∈ castL l ↔ x ∈ l := by
  unfold castL
  rw [List.mem_map]
  refine ⟨fun ⟨y, hy, e⟩ => ?_, fun h => ⟨x, h, rfl⟩⟩
  have : y = x := by omega
  exact this ▸ hy
theorem asc_castL {l : List Nat} : (castL l).Pairwise (· < ·) ↔ l.Pairwise (· < ·) := by
  unfold castL
  rw [List.pairwise_map]
  refine ⟨fun h => h.imp fun q => by omega, fun h => h.imp fun q => by omega⟩
theorem sortSet_nat (l : List Nat) : ∃ sg : List Nat, sortSet (castL l) = castL sg ∧ sg.Pairwise (· < ·) ∧ ∀ x, x ∈ sg ↔ x ∈ l := by
  obtain ⟨sg, e⟩ := cast_of (l := sortSet (castL l)) fun x hx => by
    rw [sortSet_mem] at hx
    obtain ⟨y, _, rfl⟩ := List.mem_map.mp hx
    omega
  refine ⟨sg, e, ?_, fun x => ?_⟩
  · have := sortSet_sorted (castL l)
    rw [e] at this
    exact asc_castL.mp this
  · rw [← mem_castL, ← e, sortSet_mem, mem_castL]
/-! ### the values' dict -/
def kN (k : Nat) : Key := .inl (k : Int)
theorem kN_inj {a b : Nat} (h : kN a = kN b) : a = b := by
  unfold kN at h
  injection h with h
  omega
theorem lk_zip : ∀ (sg bs : List Nat) (es : List (Key × D)) (s : Nat), sg.Nodup → bs.length = sg.length →
    lkD (mergeKD es ((sg.map kN).zip (bs.map nD))) (kN s) = if s ∈ sg then some (nD (nth bs (sg.idxOf s))) else lkD es (kN s)
  | [], bs, es, s, _, _ => by simp [mergeKD]
  | a :: sg, [], es, s, _, h => by simp at h
  | a :: sg, b :: bs, es, s, hn, hl => by
    have hn := List.nodup_cons.mp hn
    have e : mergeKD es (((a :: sg).map kN).zip ((b :: bs).map nD)) = mergeKD (putKD es (kN a) (nD b)) ((sg.map kN).zip (bs.map nD)) := rfl
    rw [e, lk_zip sg bs _ s hn.2 (by simpa using hl), lkD_put]
    by_cases hs : s = a
    · subst hs
      rw [if_neg hn.1, if_pos rfl, if_pos List.mem_cons_self, List.idxOf_cons_self]
      rfl
    · have h1 : ¬ kN s = kN a := fun z => hs (kN_inj z)
      rw [if_neg h1]
      by_cases hm : s ∈ sg
      · have hb : (a == s) = false := by simpa using fun z : a = s => hs z.symm
        rw [if_pos hm, if_pos (List.mem_cons_of_mem _ hm), List.idxOf_cons, hb]
        rfl
      · rw [if_neg hm, if_neg (by simp [hs, hm])]
theorem merge_len : ∀ (more es : List (Key × D)), (mergeKD es more).length ≤ es.length + more.length
  | [], es => Nat.le_refl _
  | p :: more, es => by
    have h := merge_len more (putKD es p.1 p.2)
    have h2 := len_putKD es p.1 p.2
    rw [List.length_cons]
    show (mergeKD (putKD es p.1 p.2) more).length ≤ _
    omega
def zipE (sg bs : List Nat) : List (Key × D) := mergeKD [] ((sg.map kN).zip (bs.map nD))
def valE (sg bs : List Nat) : List (Key × D) := mergeKD (zipE sg bs) [(.inl 0, .int 0), (.inl 1, .int 1)]
theorem zipE_len (sg bs : List Nat) : (zipE sg bs).length ≤ sg.length := by
  refine Nat.le_trans (merge_len _ _) ?_
  rw [List.length_zip, List.length_map, List.length_map, List.length_nil]
  omega
theorem lk_valE {sg bs : List Nat} {s : Nat} (hn : sg.Nodup) (hl : bs.length = sg.length) (h : s ∈ sg ∨ s ≤ 1) : lkD (valE sg bs) (kN s) = some (nD (envOf sg bs s)) := by
  have e : valE sg bs = putKD (putKD (zipE sg bs) (kN 0) (nD 0)) (kN 1) (nD 1) := rfl
  rw [e, lkD_put, lkD_put]
  unfold envOf zipE
  by_cases h1 : s = 1
  · subst h1
    rfl
  · rw [if_neg fun z => h1 (kN_inj z)]
    by_cases h0 : s = 0
    · subst h0
      rfl
    · rw [if_neg fun z => h0 (kN_inj z), if_neg h0, if_neg h1, lk_zip sg bs [] s hn hl, if_pos (h.resolve_right (by omega))]
theorem kDs_nD : ∀ sg : List Nat, kDs (sg.map nD) = some (sg.map kN)
  | [] => rfl
  | s :: sg => by
    rw [List.map_cons, kDs, kD_nD, Option.bind_some, kDs_nD sg]
    rfl
theorem asc_nodup {l : List Nat} (h : l.Pairwise (· < ·)) : l.Nodup := h.imp fun q => by omega
theorem fold_app {β : Type} (f : β → Nat) : ∀ (xs : List β) (acc : List Nat), xs.foldl (fun acc x => acc ++ [f x]) acc = acc ++ xs.map f
  | [], acc => by simp
  | x :: xs, acc => by rw [List.foldl_cons, fold_app f xs]; simp
def dzE (a b : D) (s : S) : R Ent := match a, b with
  | .tuple ds, .tuple ys => (R.of (kDs ds) s).bind fun ks s => .ok (.dic (mergeKD [] (ks.zip ys))) s
  | _, _ => .bad
@[simp] theorem fDZip_s (f g : FE) (s : S) : fDZip f g s = (f s).bind fun a s => (g s).bind fun b s => dzE a b s := rfl
theorem dzE_ok (sg bs : List Nat) (s : S) : dzE (.tuple (sg.map nD)) (.tuple (bs.map nD)) s = .ok (.dic (zipE sg bs)) s := by
  unfold dzE
  dsimp only
  rw [kDs_nD]
  rfl
end Lk17
namespace Lk17
open PySem PySem.Spec L2 PD
open PyProof.Rows hiding St
theorem asc_shape {sg : List Nat} (h : sg.Pairwise (· < ·)) (h1 : ∀ x ∈ sg, 1 < x) : True := trivial
def updI (o : Option (Option Ent)) (r : O) : O := match o with
  | some (some (.dic _)) => r
  | _ => .bad
@[simp] theorem updI_dic (es : List (Key × D)) (r : O) : updI (some (some (.dic es))) r = r := rfl
@[simp] theorem sUpd_i (i : Nat) (f : S → R Ent) (s : S) : sUpd i f s = updI s.ρ[i]? ((f s).stm fun e s => updE e s.ρ[i]? i s) := by
  rw [sUpd_s]
  unfold updI isDic
  generalize (f s).stm (fun e s => updE e s.ρ[i]? i s) = r
  rcases s.ρ[i]? with _ | _ | e
  · rfl
  · rfl
  · cases e <;> rfl
/-- the reading of a gate's word, its signals by a dict -/
theorem read_word (i j : Nat) (hij : i ≠ j) (s : S) (hj : j < s.ρ.length) (es : List (Key × D)) (hi : s.ρ[i]? = some (some (.dic es))) (f : Nat → Nat) (vs : List Nat) (l : List Nat) (hs0 : kill [j] (s.put j (.val .none)) = s)
    (hk : ∀ d, kill [j] (s.put j (.val d)) = s) (hl : l.length ≤ 1000) (h : ∀ x ∈ l, lkD es (kN x) = some (nD (f x))) : cmpD [j] (gNm j) fYes (fIxX i (fSlot j)) (l.map nD) 0 s = .ok ((l.map f).map nD) s := by
  have sl : (2000 : Nat) ≤ sizeLine := by decide
  have c := cmpD_pure (vs := [j]) (tg := gNm j) (ft := fYes) (fe := fIxX i (fSlot j)) nD (fun _ => true) (fun x => nD (f x)) s l (fun x hx => by
    refine ⟨_, _, rfl, rfl, fun _ => ⟨s.put j (.val (nD x)), ?_, hk _⟩, fun h => nomatch h⟩
    have e1 : (s.put j (.val (nD x))).ρ[j]? = some (some (.val (nD x))) := List.getElem?_set_self hj
    have e2 : (s.put j (.val (nD x))).ρ[i]? = some (some (.dic es)) := by
      show (s.ρ.set j _)[i]? = _
      rw [List.getElem?_set_ne (Ne.symm hij)]
      exact hi
    have e3 := h x hx
    unfold kN at e3
    rw [fIxX_s, e2]
    simp only [lkE_dic, thenR_some, fSlot_s, rdSlot_s, e1, rdE_val, R.bind_ok, e2, Option.bind_some, dIxX_dicD, kD_nD, e3, R.of_some]) 0 (by omega)
  rw [List.filter_eq_self.mpr (fun _ _ => rfl)] at c
  rw [List.map_map]
  exact c
def pgB : FO := (sSeq (sSetN 4 (fDZip (fSlot 1) (fCall 2 sem_bits_of (fCons (fSlot 3) (fCons (fLenS 1) fNil)))))
    (sSeq (sUpd 4 (fDisp [(fC (.int 0), fC (.int 0)), (fC (.int 1), fC (.int 1))]))
    (sApp 2 (fIx (fIxS 0 (fC (.int 1))) (fCall 1 sem_number_of (fCons (fFz (fComp [5] (fIt (fIxS 0 (fC (.int 0)))) (gNm 5) fYes (fIxX 4 (fSlot 5)))) fNil))))))
theorem tup_ix (g : Gate) : atI [PyData.tuple (g.1.map nD), .tuple (g.2.map nD)] 0 = some (.tuple (g.1.map nD)) ∧ atI [PyData.tuple (g.1.map nD), .tuple (g.2.map nD)] 1 = some (.tuple (g.2.map nD)) := ⟨rfl, rfl⟩
theorem mg01 : mergeKD [] [((.inl 0 : Key), PyData.int 0), (.inl 1, .int 1)] = [(.inl 0, .int 0), (.inl 1, .int 1)] := rfl
theorem pgB_ok (g : Gate) (sg : List Nat) (hg1 : g.1.length ≤ 6) (hg2 : g.2.length = 2 ^ g.1.length) (hsl : sg.length ≤ 6) (hn : sg.Nodup) (hm : ∀ x ∈ g.1, x ∈ sg ∨ x ≤ 1) (x : Nat) (hx : x < 2 ^ sg.length) (acc : List Nat) (ha : acc.length ≤ 1000) (w : Wst) :
    pgB ⟨[some (.val (gD g)), some (.val (.tuple (sg.map nD))), some (.own (acc.map nD)), some (.val (nD x)), none, none], w⟩ =
      .nx ⟨[some (.val (gD g)), some (.val (.tuple (sg.map nD))), some (.own ((acc ++ [gval (envOf sg (bitL x sg.length)) g]).map nD)), some (.val (nD x)), some (.dic (valE sg (bitL x sg.length))), none], w⟩ := by
  have sl : (2000 : Nat) ≤ sizeLine := by decide
  have e1 := bits_of_ok x sg.length (by omega) w
  generalize hb : bitL x sg.length = bs at *
  have hbl : bs.length = sg.length := by rw [← hb]; exact bitL_len _ _
  have hbb : ∀ b ∈ bs, b < 2 := by rw [← hb]; exact bitL_bit _ _
  have e2 := dzE_ok sg bs
  have hz : (zipE sg bs).length + 2 ≤ sizeLine := by have := zipE_len sg bs; omega
  have c := read_word 4 5 (by decide) ⟨[some (.val (gD g)), some (.val (.tuple (sg.map nD))), some (.own (acc.map nD)), some (.val (nD x)), some (.dic (valE sg bs)), none], w⟩ (show 5 < 6 by decide) (valE sg bs) rfl (envOf sg bs) [] g.1 rfl (fun d => rfl) (by omega) fun y hy => lk_valE hn hbl (hm y hy)
  have e3 := number_of_okL (g.1.map (envOf sg bs)) w
  have hlt : numF (g.1.map (envOf sg bs)) < g.2.length := by
    have := numF_lt _ (map_bit (envOf_env (sg := sg) hbb) g.1)
    rw [List.length_map] at this
    rw [hg2]; exact this
  have e4 := atI_nD hlt
  have a0 := (tup_ix g).1
  have a1 := (tup_ix g).2
  have hal : acc.length < sizeLine := by omega
  have ev : valE sg bs = mergeKD (zipE sg bs) [(.inl 0, .int 0), (.inl 1, .int 1)] := rfl
  unfold pgB gD at *
  have ln : (PyData.int (sg.length : Int)) = nD sg.length := rfl
  have h2 : atI [PyData.tuple (g.1.map nD), .tuple (g.2.map nD)] 1 = some (.tuple (g.2.map nD)) := a1
  simp -implicitDefEqProofs only [nD_eq] at e4
  simp -implicitDefEqProofs [e1, ln, e2, hz, mg01, ← ev, a0, a1, c, hal]
  simp -implicitDefEqProofs only [List.map_map] at e3
  simp -implicitDefEqProofs [e3, nD_eq, e4, gval]
  exact hal
theorem sub_len : ∀ (l m : List Nat), l.Nodup → (∀ x ∈ l, x ∈ m) → l.length ≤ m.length
  | [], m, _, _ => Nat.zero_le _
  | a :: l, m, hn, h => by
    have hn := List.nodup_cons.mp hn
    have ha := h a List.mem_cons_self
    have ih := sub_len l (m.erase a) hn.2 fun x hx => (List.mem_erase_of_ne fun e : x = a => hn.1 (e ▸ hx)).mpr (h x (List.mem_cons_of_mem _ hx))
    have hl := List.length_erase_of_mem ha
    have := List.length_pos_of_mem ha
    rw [List.length_cons]
    omega
theorem plain_gate_ok (g : Gate) (hg1 : g.1.length ≤ 6) (hg2 : g.2.length = 2 ^ g.1.length) (hgb : ∀ x ∈ g.2, x < 2) (w : Wst) :
    ∃ g', sem_plain_gate [gD g] w = .ret (gD g') w ∧ Rep g' (fun x => x ∈ g.1) (fun ρ => gval ρ g) ∧ g'.1.length ≤ g.1.length := by
  have sl : (2000 : Nat) ≤ sizeLine := by decide
  have c := cmpD_pure (vs := [5]) (tg := gNm 5) (ft := (tVal (fBin dGt (fSlot 5) (fC (.int 1))))) (fe := fSlot 5) nD (fun x => decide (1 < x)) nD ⟨[some (.val (gD g)), none, none, none, none, none], w⟩ g.1 (fun x hx => by
    have e : dGt (nD x) (nD 1) = some (.bool (decide (1 < x))) := dGt_nn x 1
    have n1 : nD 1 = .int 1 := rfl
    rw [n1] at e
    refine ⟨_, ⟨[some (.val (gD g)), none, none, none, none, some (.val (nD x))], w⟩, rfl, ?_, fun _ => ⟨⟨[some (.val (gD g)), none, none, none, none, some (.val (nD x))], w⟩, ?_, rfl⟩, fun _ => rfl⟩
    · simp -implicitDefEqProofs [e]
    · simp -implicitDefEqProofs) 0 (by omega)
  obtain ⟨sg, es, ha, hm⟩ := sortSet_nat (g.1.filter fun x => decide (1 < x))
  have hm2 : ∀ x, x ∈ sg ↔ x ∈ g.1 ∧ 1 < x := fun x => by rw [hm, List.mem_filter, decide_eq_true_eq]
  have hsl : sg.length ≤ g.1.length := sub_len _ _ (asc_nodup ha) fun x hx => ((hm2 x).mp hx).1
  have hfl : (g.1.filter fun x => decide (1 < x)).length ≤ g.1.length := List.length_filter_le _ _
  have e0 := setSD_ints (l := castL (g.1.filter fun x => decide (1 < x))) (by unfold castL; rw [List.length_map]; omega)
  rw [es, castL_map, castL_map] at e0
  have hp : 2 ^ sg.length ≤ 64 := Nat.le_trans (Nat.pow_le_pow_right (by decide) (show sg.length ≤ 6 by omega)) (by decide)
  have z := forD_foldi (kl := [3, 4]) (tg := gNm 3) (body := pgB) nD (fun acc : List Nat => (⟨[some (.val (gD g)), some (.val (.tuple (sg.map nD))), some (.own (acc.map nD)), none, none, none], w⟩ : S)) (fun acc x => acc ++ [gval (envOf sg (bitL x sg.length)) g]) (fun i acc => acc.length = i) (List.range (2 ^ sg.length)) 0 (fun i acc x hx h => by
    have hi : i < 2 ^ sg.length := by
      rcases Nat.lt_or_ge i (2 ^ sg.length) with q | q
      · exact q
      · rw [List.getElem?_eq_none (by rw [List.length_range]; exact q)] at hx; cases hx
    rw [List.getElem?_range hi] at hx
    cases hx
    rw [Nat.zero_add] at h ⊢
    refine ⟨by simp [h], _, _, rfl, .inl (pgB_ok g sg hg1 hg2 (by omega) (asc_nodup ha) (fun y hy => ?_) i hi acc (by omega) w), rfl⟩
    by_cases q : 1 < y
    · exact .inl ((hm2 y).mpr ⟨hy, q⟩)
    · exact .inr (by omega)) [] rfl
  have z1 := z.1
  rw [fold_app, List.nil_append] at z1
  refine ⟨tab (fun ρ => gval ρ g) sg, ?_, tab_rep ha hm2 (fun a b _ _ h => gval_congr fun x hx => h x (.inl hx)) (fun ρ e => gval_lt e hg2 hgb), hsl⟩
  have key : f_plain_gate = sSeq (sAsg (fB1 dTup (fFz (fSortSet (fFz (fComp [5] (fIt (fIxS 0 (fC (.int 0)))) (gNm 5) (tVal (fBin dGt (fSlot 5) (fC (.int 1)))) (fSlot 5)))))) (gNm 1))
    (sSeq (sSetO 2 (fLim fNil)) (sSeq (sFor [3, 4] (fR1 (fCons (fBin dShl (fC (.int 1)) (fLenS 1)) fNil)) (gNm 3) pgB) (sRet (fTup (fCons (fSlot 1) (fCons (fB1 dTup (fSlot 2)) fNil)))))) := rfl
  simp only [sem_plain_gate, semOf, startS, key]
  have a0 := (tup_ix g).1
  have s2 : (2 : Nat) ≤ sizeLine := by decide
  have s0 : (0 : Nat) ≤ sizeLine := by decide
  have sh := shl1_nat sg.length (by omega)
  have r1 : rng1 (.int ((2 ^ sg.length : Nat) : Int)) = some ((List.range (2 ^ sg.length)).map nD) := rng1_nat (by omega)
  generalize pgB = PB at *
  generalize (tVal (fBin dGt (fSlot 5) (fC (.int 1)))) = TT at *
  unfold tab
  unfold gD at *
  generalize 2 ^ sg.length = P at *
  simp only [List.map_nil] at z1
  simp -implicitDefEqProofs [a0, c, e0, s2, s0, sh, r1, z1]
end Lk17
namespace Lk17
open PySem PySem.Spec L2 PD
open PyProof.Rows hiding St
/-! ### sets of numbers as dicts -/
def setE (ks : List Nat) : List (Key × D) := ks.map fun k => (kN k, .bool true)
def ins (ks : List Nat) (k : Nat) : List Nat := if k ∈ ks then ks else ks ++ [k]
theorem ins_mem {ks : List Nat} {k x : Nat} : x ∈ ins ks k ↔ x ∈ ks ∨ x = k := by
  unfold ins
  by_cases h : k ∈ ks
  · rw [if_pos h]
    refine ⟨.inl, fun q => q.elim id fun e => by rw [e]; exact h⟩
  · rw [if_neg h, List.mem_append, List.mem_singleton]
theorem ins_nodup {ks : List Nat} {k : Nat} (h : ks.Nodup) : (ins ks k).Nodup := by
  unfold ins
  by_cases hk : k ∈ ks
  · rwa [if_pos hk]
  · rw [if_neg hk, List.nodup_append]
    exact ⟨h, List.pairwise_singleton _ _, fun a ha b hb e => hk (by rw [List.mem_singleton.mp hb] at e; exact e ▸ ha)⟩
theorem lkD_set (ks : List Nat) (k : Nat) : (lkD (setE ks) (kN k)).isSome = decide (k ∈ ks) := by
  induction ks with
  | nil => rfl
  | cons a ks ih =>
    unfold setE at ih ⊢
    rw [List.map_cons]
    by_cases h : a = k
    · subst h
      simp [lkD, List.find?_cons]
    · have h1 : ¬ kN a = kN k := fun z => h (kN_inj z)
      have h2 : ¬ k = a := fun z => h z.symm
      simp only [lkD, List.find?_cons, h1, decide_false] at ih ⊢
      rw [ih]
      simp [h2]
theorem put_set (ks : List Nat) (k : Nat) : putKD (setE ks) (kN k) (.bool true) = setE (ins ks k) := by
  have ha : ((setE ks).any fun p => decide (p.1 = kN k)) = decide (k ∈ ks) := by
    unfold setE
    rw [List.any_map]
    induction ks with
    | nil => rfl
    | cons a ks ih =>
      rw [List.any_cons, ih]
      by_cases h : a = k
      · subst h
        simp
      · have h1 : ¬ kN a = kN k := fun z => h (kN_inj z)
        have h2 : ¬ k = a := fun z => h z.symm
        simp [h1, h2]
  unfold putKD ins
  rw [ha]
  by_cases h : k ∈ ks
  · rw [if_pos (by simpa using h), if_pos h]
    unfold setE
    rw [List.map_map]
    refine List.map_congr_left fun a _ => ?_
    show (if kN a = kN k then (kN a, PyData.bool true) else (kN a, PyData.bool true)) = _
    split <;> rfl
  · rw [if_neg (by simpa using h), if_neg h]
    unfold setE
    rw [List.map_append]
    rfl
def sdE (d : D) : Option (List D) := match d with
  | .dict es => (kesD es).bind fun m => (ikeys m).bind fun ns => if ns.length < 64 then some ((sortI ns).map PyData.int) else none
  | _ => none
@[simp] theorem fSortD_s (i : Nat) (s : S) : fSortD i s = R.of ((lkE s.ρ[i]?).bind sdE) s := by
  unfold fSortD
  rw [look_s]
  rcases h : lkE s.ρ[i]? with _ | d
  · rfl
  · cases d <;> rfl
theorem ikeys_map {α : Type} (f : α → Nat) (v : α → D) : ∀ l : List α, ikeys (l.map fun a => (kN (f a), v a)) = some (castL (l.map f))
  | [] => rfl
  | a :: l => by
    rw [List.map_cons]
    show (ikeys (l.map fun a => (kN (f a), v a))).map _ = _
    rw [ikeys_map f v l]
    rfl
theorem sortI_nat (l : List Nat) (h : l.Nodup) : ∃ sg : List Nat, sortI (castL l) = castL sg ∧ sg.Pairwise (· < ·) ∧ (∀ x, x ∈ sg ↔ x ∈ l) ∧ sg.length = l.length := by
  have pm := sortI_perm (castL l)
  obtain ⟨sg, e⟩ := cast_of (l := sortI (castL l)) fun x hx => by
    rw [pm.mem_iff] at hx
    obtain ⟨y, _, rfl⟩ := List.mem_map.mp hx
    omega
  have nd : (castL l).Nodup := by
    unfold castL
    exact List.pairwise_map.mpr (h.imp fun q => by omega)
  have nd2 : (sortI (castL l)).Nodup := pm.nodup_iff.mpr nd
  have so := sortI_sorted (castL l)
  rw [e] at so nd2 pm
  refine ⟨sg, e, ?_, fun x => by rw [← mem_castL, pm.mem_iff, mem_castL], ?_⟩
  · have : (castL sg).Pairwise (· < ·) := (so.and nd2).imp fun q => by omega
    exact asc_castL.mp this
  · have := pm.length_eq
    unfold castL at this
    rwa [List.length_map, List.length_map] at this
theorem sdE_map {α : Type} (f : α → Nat) (v : α → D) (l : List α) (hl : l.length < 64) (h : (l.map f).Nodup) : ∃ sg : List Nat, sdE (dicD (l.map fun a => (kN (f a), v a))) = some (sg.map nD) ∧ sg.Pairwise (· < ·) ∧ (∀ x, x ∈ sg ↔ x ∈ l.map f) ∧ sg.length = l.length := by
  obtain ⟨sg, e, h1, h2, h3⟩ := sortI_nat (l.map f) h
  refine ⟨sg, ?_, h1, h2, by rw [h3, List.length_map]⟩
  unfold sdE dicD
  dsimp only
  rw [kesD_dic, Option.bind_some, ikeys_map, Option.bind_some, if_pos (by unfold castL; rw [List.length_map, List.length_map]; exact hl), e, castL_map]
/-! ### signals together -/
def stI : FO := (sIf (tVal (fBin dGt (fSlot 5) (fC (.int 1)))) (sSetD 3 (fC (.bool true)) (fSlot 5)) sNil)
def insG (ks : List Nat) (x : Nat) : List Nat := if 1 < x then ins ks x else ks
theorem insG_mem {ks : List Nat} {k x : Nat} : x ∈ insG ks k ↔ x ∈ ks ∨ (x = k ∧ 1 < x) := by
  unfold insG
  by_cases h : 1 < k
  · rw [if_pos h, ins_mem]
    refine or_congr Iff.rfl ⟨fun e => ⟨e, by omega⟩, fun e => e.1⟩
  · rw [if_neg h]
    refine ⟨.inl, fun q => q.elim id fun e => by omega⟩
theorem insG_nodup {ks : List Nat} {k : Nat} (h : ks.Nodup) : (insG ks k).Nodup := by
  unfold insG
  split
  · exact ins_nodup h
  · exact h
theorem foldG_mem : ∀ (l ks : List Nat) (x : Nat), x ∈ l.foldl insG ks ↔ x ∈ ks ∨ (x ∈ l ∧ 1 < x)
  | [], ks, x => by simp
  | a :: l, ks, x => by
    rw [List.foldl_cons, foldG_mem l, insG_mem, List.mem_cons]
    constructor
    · rintro ((h | ⟨h, h1⟩) | ⟨h, h1⟩)
      · exact .inl h
      · exact .inr ⟨.inl h, h1⟩
      · exact .inr ⟨.inr h, h1⟩
    · rintro (h | ⟨h | h, h1⟩)
      · exact .inl (.inl h)
      · exact .inl (.inr ⟨h, h1⟩)
      · exact .inr ⟨h, h1⟩
theorem foldG_nodup : ∀ (l ks : List Nat), ks.Nodup → (l.foldl insG ks).Nodup
  | [], _, h => h
  | a :: l, ks, h => foldG_nodup l _ (insG_nodup h)
theorem st_inner (e0 e1 e2 e4 : Option Ent) (w : Wst) (B : List Nat) (hB : B.length ≤ 1000) (l : List Nat) (hl : ∀ x ∈ l, x ∈ B) (ks : List Nat) (hn : ks.Nodup) (hk : ∀ x ∈ ks, x ∈ B) :
    forD [5] (gNm 5) stI (l.map nD) ⟨[e0, e1, e2, some (.dic (setE ks)), e4, none], w⟩ = .nx ⟨[e0, e1, e2, some (.dic (setE (l.foldl insG ks))), e4, none], w⟩ := by
  have sl : (2000 : Nat) ≤ sizeLine := by decide
  have z := forD_fold (kl := [5]) (tg := gNm 5) (body := stI) nD (fun ks : List Nat => (⟨[e0, e1, e2, some (.dic (setE ks)), e4, none], w⟩ : S)) insG (fun ks => ks.Nodup ∧ ∀ x ∈ ks, x ∈ B) l (fun ks x hx ⟨h1, h2⟩ => by
    have hlen := sub_len ks B h1 h2
    refine ⟨⟨insG_nodup h1, fun y hy => ?_⟩, ⟨[e0, e1, e2, some (.dic (setE ks)), e4, some (.val (nD x))], w⟩, ⟨[e0, e1, e2, some (.dic (setE (insG ks x))), e4, some (.val (nD x))], w⟩, rfl, .inl ?_, rfl⟩
    · rcases insG_mem.mp hy with q | q
      · exact h2 y q
      · rw [q.1]; exact hl x hx
    · have e : dGt (nD x) (nD 1) = some (.bool (decide (1 < x))) := dGt_nn x 1
      have n1 : nD 1 = .int 1 := rfl
      rw [n1] at e
      have hs : (setE ks).length < sizeLine := by unfold setE; rw [List.length_map]; omega
      have ep := put_set ks x
      unfold kN at ep
      unfold stI insG
      by_cases h : 1 < x
      · simp -implicitDefEqProofs [e, h, hs, ep]
      · simp -implicitDefEqProofs [e, h]) ks ⟨hn, hk⟩
  exact z.1
def stO : FO := sFor [5] (fIt (fIf (tVal (fCmpS dEq 4 (fSlot 1))) (fSlot 2) (fTup (fCons (fSlot 4) fNil)))) (gNm 5) stI
def stStep (s : Nat) (inner : List Nat) (ks : List Nat) (t : Nat) : List Nat := (if t = s then inner else [t]).foldl insG ks
theorem stFold_mem (s : Nat) (inner : List Nat) : ∀ (l ks : List Nat) (x : Nat), x ∈ l.foldl (stStep s inner) ks ↔ x ∈ ks ∨ (1 < x ∧ ∃ t ∈ l, x ∈ (if t = s then inner else [t]))
  | [], ks, x => by simp
  | a :: l, ks, x => by
    rw [List.foldl_cons, stFold_mem s inner l]
    unfold stStep
    rw [foldG_mem]
    constructor
    · rintro ((h | ⟨h, h1⟩) | ⟨h1, t, ht, h⟩)
      · exact .inl h
      · exact .inr ⟨h1, a, List.mem_cons_self, h⟩
      · exact .inr ⟨h1, t, List.mem_cons_of_mem _ ht, h⟩
    · rintro (h | ⟨h1, t, ht, h⟩)
      · exact .inl (.inl h)
      · rcases List.mem_cons.mp ht with e | ht
        · subst e
          exact .inl (.inr ⟨h, h1⟩)
        · exact .inr ⟨h1, t, ht, h⟩
theorem signals_together_ok (one inner : List Nat) (s : Nat) (h1 : one.length ≤ 20) (h2 : inner.length ≤ 20) (hs : s ∈ one) (w : Wst) :
    ∃ sg : List Nat, sem_signals_together [.tuple (one.map nD), nD s, .tuple (inner.map nD)] w = .ret (.tuple (sg.map nD)) w ∧ sg.Pairwise (· < ·) ∧ ∀ x, x ∈ sg ↔ ((x ∈ one ∧ x ≠ s) ∨ x ∈ inner) ∧ 1 < x := by
  have sl : (2000 : Nat) ≤ sizeLine := by decide
  have z := forD_fold (kl := [4, 5]) (tg := gNm 4) (body := stO) nD (fun ks : List Nat => (⟨[some (.val (.tuple (one.map nD))), some (.val (nD s)), some (.val (.tuple (inner.map nD))), some (.dic (setE ks)), none, none], w⟩ : S)) (stStep s inner) (fun ks => ks.Nodup ∧ ∀ x ∈ ks, x ∈ one ++ inner) one (fun ks t ht ⟨q1, q2⟩ => by
    have hsub : ∀ x ∈ (if t = s then inner else [t]), x ∈ one ++ inner := fun x hx => by
      by_cases h : t = s
      · rw [if_pos h] at hx
        exact List.mem_append_right _ hx
      · rw [if_neg h, List.mem_singleton] at hx
        exact List.mem_append_left _ (hx ▸ ht)
    have si := st_inner (some (.val (.tuple (one.map nD)))) (some (.val (nD s))) (some (.val (.tuple (inner.map nD)))) (some (.val (nD t))) w (one ++ inner) (by rw [List.length_append]; omega) (if t = s then inner else [t]) hsub ks q1 q2
    refine ⟨⟨foldG_nodup _ _ q1, fun x hx => ?_⟩, _, ⟨[some (.val (.tuple (one.map nD))), some (.val (nD s)), some (.val (.tuple (inner.map nD))), some (.dic (setE (stStep s inner ks t))), some (.val (nD t)), none], w⟩, rfl, .inl ?_, rfl⟩
    · rcases (foldG_mem _ _ _).mp hx with q | q
      · exact q2 x q
      · exact hsub x q.1
    · have e := dEq_nD t s
      have s1 : (1 : Nat) ≤ sizeLine := by decide
      unfold stO stStep
      generalize stI = SI at *
      by_cases h : t = s
      · rw [if_pos h] at si ⊢
        rw [decide_eq_true h] at e
        simp -implicitDefEqProofs [e, si]
      · rw [if_neg h] at si ⊢
        rw [decide_eq_false h] at e
        simp only [List.map_cons, List.map_nil] at si
        simp -implicitDefEqProofs [e, s1, si]) [] ⟨List.nodup_nil, (fun _ h => nomatch h)⟩
  obtain ⟨z1, zn, zm⟩ := z
  have hlen := sub_len _ _ zn zm
  rw [List.length_append] at hlen
  obtain ⟨sg, e, ha, hm, _⟩ := sdE_map (fun k : Nat => k) (fun _ => PyData.bool true) (one.foldl (stStep s inner) []) (by omega) (by rw [List.map_id']; exact zn)
  rw [List.map_id'] at hm
  refine ⟨sg, ?_, ha, fun x => ?_⟩
  · have key : f_signals_together = sSeq (sSetN 3 fDic0) (sSeq (sFor [4, 5] (fIt (fSlot 0)) (gNm 4) stO) (sRet (fB1 dTup (fFz (fSortD 3))))) := rfl
    simp only [sem_signals_together, semOf, startS, key]
    have e0 : setE [] = [] := rfl
    have e' : sdE (dicD (setE (one.foldl (stStep s inner) []))) = some (sg.map nD) := e
    rw [e0] at z1
    generalize stO = SO at *
    simp -implicitDefEqProofs [z1, e']
  · rw [hm, stFold_mem]
    constructor
    · rintro (h | ⟨h1, t, ht, h⟩)
      · cases h
      · refine ⟨?_, h1⟩
        by_cases q : t = s
        · rw [if_pos q] at h
          exact .inr h
        · rw [if_neg q, List.mem_singleton] at h
          subst h
          exact .inl ⟨ht, q⟩
    · rintro ⟨h | h, h1⟩
      · exact .inr ⟨h1, x, h.1, by rw [if_neg h.2]; exact List.mem_singleton.mpr rfl⟩
      · exact .inr ⟨h1, s, hs, by rw [if_pos rfl]; exact h⟩
end Lk17
namespace Lk17
open PySem PySem.Spec L2 PD
open PyProof.Rows hiding St
/-! ### words together -/
def wgA : FO := (sSeq (sSetN 6 (fDZip (fSlot 3) (fCall 2 sem_bits_of (fCons (fSlot 5) (fCons (fLenS 3) fNil)))))
    (sUpd 6 (fDisp [(fC (.int 0), fC (.int 0)), (fC (.int 1), fC (.int 1))])))
def wgL : FO := (sAsg (fIx (fIxS 2 (fC (.int 1))) (fCall 1 sem_number_of (fCons (fFz (fComp [9] (fIt (fIxS 2 (fC (.int 0)))) (gNm 9) fYes (fIxX 6 (fSlot 9)))) fNil))) (gNm 7))
def wgE : FE := (fIf (tVal (fCmpS dEq 9 (fSlot 1))) (fSlot 7) (fIxX 6 (fSlot 9)))
def wgM : FO := (sSetO 8 (fComp [9] (fIt (fIxS 0 (fC (.int 0)))) (gNm 9) fYes wgE))
def wgZ : FO := (sApp 4 (fIx (fIxS 0 (fC (.int 1))) (fCall 1 sem_number_of (fCons (fSlot 8) fNil))))
def wgB : FO := sSeq (sSetN 6 (fDZip (fSlot 3) (fCall 2 sem_bits_of (fCons (fSlot 5) (fCons (fLenS 3) fNil))))) (sSeq (sUpd 6 (fDisp [(fC (.int 0), fC (.int 0)), (fC (.int 1), fC (.int 1))])) (sSeq wgL (sSeq wgM wgZ)))
theorem wgB_eq : wgB = sSeq wgA (sSeq wgL (sSeq wgM wgZ)) := by
  unfold wgB wgA
  rw [sSeq_assoc]
section
variable {t inner : Gate} {s : Nat} {sg bs : List Nat} {acc : List Nat} {w : Wst}
theorem wgA_ok (x : Nat) (hsl : sg.length ≤ 20) (e4 : Option Ent) :
    wgA ⟨[some (.val (gD t)), some (.val (nD s)), some (.val (gD inner)), some (.val (.tuple (sg.map nD))), e4, some (.val (nD x)), none, none, none, none], w⟩ =
      .nx ⟨[some (.val (gD t)), some (.val (nD s)), some (.val (gD inner)), some (.val (.tuple (sg.map nD))), e4, some (.val (nD x)), some (.dic (valE sg (bitL x sg.length))), none, none, none], w⟩ := by
  have sl : (2000 : Nat) ≤ sizeLine := by decide
  have e1 := bits_of_ok x sg.length (by omega) w
  generalize bitL x sg.length = bs at *
  have e2 := dzE_ok sg bs
  have hz : (zipE sg bs).length + 2 ≤ sizeLine := by have := zipE_len sg bs; omega
  have ev : valE sg bs = mergeKD (zipE sg bs) [(.inl 0, .int 0), (.inl 1, .int 1)] := rfl
  have ln : (PyData.int (sg.length : Int)) = nD sg.length := rfl
  unfold wgA
  simp -implicitDefEqProofs [e1, ln, e2, hz, mg01, ← ev]
theorem wgL_ok (x : Nat) (hn : sg.Nodup) (hbl : bs.length = sg.length) (hbb : ∀ b ∈ bs, b < 2) (hg1 : inner.1.length ≤ 20) (hg2 : inner.2.length = 2 ^ inner.1.length) (hm : ∀ y ∈ inner.1, y ∈ sg ∨ y ≤ 1) (e4 e5 : Option Ent) :
    wgL ⟨[some (.val (gD t)), some (.val (nD s)), some (.val (gD inner)), some (.val (.tuple (sg.map nD))), e4, e5, some (.dic (valE sg bs)), none, none, none], w⟩ =
      .nx ⟨[some (.val (gD t)), some (.val (nD s)), some (.val (gD inner)), some (.val (.tuple (sg.map nD))), e4, e5, some (.dic (valE sg bs)), some (.val (nD (gval (envOf sg bs) inner))), none, none], w⟩ := by
  have c := read_word 6 9 (by decide) ⟨[some (.val (gD t)), some (.val (nD s)), some (.val (gD inner)), some (.val (.tuple (sg.map nD))), e4, e5, some (.dic (valE sg bs)), none, none, none], w⟩ (show 9 < 10 by decide) (valE sg bs) rfl (envOf sg bs) [] inner.1 rfl (fun d => rfl) (by omega) fun y hy => lk_valE hn hbl (hm y hy)
  have e3 := number_of_okL (inner.1.map (envOf sg bs)) w
  have hlt : numF (inner.1.map (envOf sg bs)) < inner.2.length := by
    have := numF_lt _ (map_bit (envOf_env (sg := sg) hbb) inner.1)
    rw [List.length_map] at this
    rw [hg2]; exact this
  have e4' := atI_nD hlt
  have a0 := (tup_ix inner).1
  have a1 := (tup_ix inner).2
  unfold wgL
  unfold gD at *
  simp -implicitDefEqProofs only [nD_eq] at e4'
  simp -implicitDefEqProofs only [List.map_map] at e3
  simp -implicitDefEqProofs [a0, a1, c]
  simp -implicitDefEqProofs [e3, nD_eq, e4', gval]
theorem wgM_ok (late : Nat) (hn : sg.Nodup) (hbl : bs.length = sg.length) (hg1 : t.1.length ≤ 20) (hm : ∀ y ∈ t.1, y ≠ s → y ∈ sg ∨ y ≤ 1) (e3 e4 e5 : Option Ent) :
    wgM ⟨[some (.val (gD t)), some (.val (nD s)), some (.val (gD inner)), e3, e4, e5, some (.dic (valE sg bs)), some (.val (nD late)), none, none], w⟩ =
      .nx ⟨[some (.val (gD t)), some (.val (nD s)), some (.val (gD inner)), e3, e4, e5, some (.dic (valE sg bs)), some (.val (nD late)), some (.own ((t.1.map fun y => if y = s then late else envOf sg bs y).map nD)), none], w⟩ := by
  have sl : (2000 : Nat) ≤ sizeLine := by decide
  have c := cmpD_pure (vs := [9]) (tg := gNm 9) (ft := fYes) (fe := wgE) nD (fun _ => true) (fun y => nD (if y = s then late else envOf sg bs y)) ⟨[some (.val (gD t)), some (.val (nD s)), some (.val (gD inner)), e3, e4, e5, some (.dic (valE sg bs)), some (.val (nD late)), none, none], w⟩ t.1 (fun y hy => by
    refine ⟨_, _, rfl, rfl, fun _ => ⟨⟨[some (.val (gD t)), some (.val (nD s)), some (.val (gD inner)), e3, e4, e5, some (.dic (valE sg bs)), some (.val (nD late)), none, some (.val (nD y))], w⟩, ?_, rfl⟩, fun h => nomatch h⟩
    have e := dEq_nD y s
    unfold wgE
    by_cases h : y = s
    · subst h
      rw [decide_eq_true rfl] at e
      simp -implicitDefEqProofs [e]
    · rw [decide_eq_false h] at e
      have lk := lk_valE hn hbl (hm y hy h)
      unfold kN at lk
      simp -implicitDefEqProofs [e, h, lk]) 0 (by omega)
  rw [List.filter_eq_self.mpr (fun _ _ => rfl)] at c
  have a0 := (tup_ix t).1
  have em : (t.1.map fun y => if y = s then late else envOf sg bs y).map nD = t.1.map fun y => nD (if y = s then late else envOf sg bs y) := by
    rw [List.map_map]
    rfl
  rw [em]
  unfold wgM
  generalize wgE = WE at *
  unfold gD at *
  simp -implicitDefEqProofs [a0, c]
theorem wgZ_ok (l : List Nat) (hb : ∀ b ∈ l, b < 2) (hl : l.length = t.1.length) (hg2 : t.2.length = 2 ^ t.1.length) (ha : acc.length ≤ 1000) (e1 e2 e3 e5 e6 e7 : Option Ent) :
    wgZ ⟨[some (.val (gD t)), e1, e2, e3, some (.own (acc.map nD)), e5, e6, e7, some (.own (l.map nD)), none], w⟩ =
      .nx ⟨[some (.val (gD t)), e1, e2, e3, some (.own ((acc ++ [nth t.2 (numF l)]).map nD)), e5, e6, e7, some (.val (.list (l.map nD))), none], w⟩ := by
  have sl : (2000 : Nat) ≤ sizeLine := by decide
  have e3' := number_of_okL l w
  have hlt := numF_lt l hb
  rw [hl, ← hg2] at hlt
  have e4' := atI_nD hlt
  have a1 : atI [PyData.tuple (t.1.map nD), .tuple (t.2.map nD)] 1 = some (.tuple (t.2.map nD)) := rfl
  have hal : acc.length < sizeLine := by omega
  unfold wgZ
  unfold gD at *
  simp -implicitDefEqProofs only [nD_eq] at e4'
  simp -implicitDefEqProofs [a1, e3', hal]
  simp -implicitDefEqProofs [nD_eq, e4', hal]
end
def togF (t : Gate) (s : Nat) (inner : Gate) (ρ : Nat → Nat) : Nat := gval (fun x => if x = s then gval ρ inner else ρ x) t
theorem togF_env {ρ : Nat → Nat} (e : Env ρ) {s : Nat} (hs : 1 < s) {v : Nat} (hv : v < 2) : Env (fun x => if x = s then v else ρ x) :=
  ⟨by show (if 0 = s then v else ρ 0) = 0; rw [if_neg (by omega)]; exact e.z, by show (if 1 = s then v else ρ 1) = 1; rw [if_neg (by omega)]; exact e.o, fun x => by
    show (if x = s then v else ρ x) < 2
    split
    · exact hv
    · exact e.b x⟩
theorem words_together_ok (t inner : Gate) (s : Nat) (sg : List Nat) (hs : 1 < s) (ha : sg.Pairwise (· < ·)) (hsl : sg.length ≤ 6) (ht1 : t.1.length ≤ 6) (ht2 : t.2.length = 2 ^ t.1.length) (hi1 : inner.1.length ≤ 6) (hi2 : inner.2.length = 2 ^ inner.1.length) (hib : ∀ x ∈ inner.2, x < 2)
    (hm : ∀ x, x ∈ sg ↔ ((x ∈ t.1 ∧ x ≠ s) ∨ x ∈ inner.1) ∧ 1 < x) (w : Wst) :
    sem_words_together [gD t, nD s, gD inner, .tuple (sg.map nD)] w = .ret (.tuple ((tab (togF t s inner) sg).2.map nD)) w := by
  have sl : (2000 : Nat) ≤ sizeLine := by decide
  have hp : 2 ^ sg.length ≤ 64 := Nat.le_trans (Nat.pow_le_pow_right (by decide) (show sg.length ≤ 6 by omega)) (by decide)
  have m1 : ∀ y ∈ inner.1, y ∈ sg ∨ y ≤ 1 := fun y hy => by
    by_cases q : 1 < y
    · exact .inl ((hm y).mpr ⟨.inr hy, q⟩)
    · exact .inr (by omega)
  have m2 : ∀ y ∈ t.1, y ≠ s → y ∈ sg ∨ y ≤ 1 := fun y hy h => by
    by_cases q : 1 < y
    · exact .inl ((hm y).mpr ⟨.inl ⟨hy, h⟩, q⟩)
    · exact .inr (by omega)
  have z := forD_foldi (kl := [5, 6, 7, 8]) (tg := gNm 5) (body := wgB) nD (fun acc : List Nat => (⟨[some (.val (gD t)), some (.val (nD s)), some (.val (gD inner)), some (.val (.tuple (sg.map nD))), some (.own (acc.map nD)), none, none, none, none, none], w⟩ : S)) (fun acc x => acc ++ [togF t s inner (envOf sg (bitL x sg.length))]) (fun i acc => acc.length = i) (List.range (2 ^ sg.length)) 0 (fun i acc x hx h => by
    have hi : i < 2 ^ sg.length := by
      rcases Nat.lt_or_ge i (2 ^ sg.length) with q | q
      · exact q
      · rw [List.getElem?_eq_none (by rw [List.length_range]; exact q)] at hx; cases hx
    rw [List.getElem?_range hi] at hx
    cases hx
    rw [Nat.zero_add] at h ⊢
    have env := envOf_env (sg := sg) (bitL_bit i sg.length)
    have hlt := gval_lt env hi2 hib
    refine ⟨by simp [h], _, ⟨[some (.val (gD t)), some (.val (nD s)), some (.val (gD inner)), some (.val (.tuple (sg.map nD))), some (.own ((acc ++ [togF t s inner (envOf sg (bitL i sg.length))]).map nD)), some (.val (nD i)), some (.dic (valE sg (bitL i sg.length))), some (.val (nD (gval (envOf sg (bitL i sg.length)) inner))), some (.val (.list ((t.1.map fun y => if y = s then gval (envOf sg (bitL i sg.length)) inner else envOf sg (bitL i sg.length) y).map nD))), none], w⟩, rfl, .inl ?_, rfl⟩
    rw [wgB_eq]
    rw [sSeq_s]
    have e1 := wgA_ok (t := t) (s := s) (inner := inner) (sg := sg) (w := w) i (by omega) (some (.own (acc.map nD)))
    have e1' : wgA ((⟨[some (.val (gD t)), some (.val (nD s)), some (.val (gD inner)), some (.val (.tuple (sg.map nD))), some (.own (acc.map nD)), none, none, none, none, none], w⟩ : S).put 5 (.val (nD i))) = _ := e1
    rw [e1', O.seq_nx, sSeq_s, wgL_ok i (asc_nodup ha) (bitL_len _ _) (bitL_bit _ _) (by omega) hi2 m1, O.seq_nx, sSeq_s, wgM_ok _ (asc_nodup ha) (bitL_len _ _) (by omega) m2, O.seq_nx]
    exact wgZ_ok _ (map_bit (togF_env env hs hlt) t.1) (by rw [List.length_map]) ht2 (by omega) _ _ _ _ _ _) [] rfl
  have z1 := z.1
  rw [fold_app, List.nil_append] at z1
  have key : f_words_together = sSeq (sSetO 4 (fLim fNil)) (sSeq (sFor [5, 6, 7, 8] (fR1 (fCons (fBin dShl (fC (.int 1)) (fLenS 3)) fNil)) (gNm 5) wgB) (sRet (fB1 dTup (fSlot 4)))) := rfl
  have s0 : (0 : Nat) ≤ sizeLine := by decide
  have sh := shl1_nat sg.length (by omega)
  have r1 : rng1 (.int ((2 ^ sg.length : Nat) : Int)) = some ((List.range (2 ^ sg.length)).map nD) := rng1_nat (by omega)
  simp only [sem_words_together, semOf, startS, key]
  generalize wgB = WB at *
  unfold tab
  generalize 2 ^ sg.length = P at *
  simp only [List.map_nil] at z1
  simp -implicitDefEqProofs [s0, sh, r1, z1]
end Lk17
namespace Lk17
open PySem PySem.Spec L2 PD
open PyProof.Rows hiding St
/-! ### dicts of gates -/
def dN (M : List (Nat × Gate)) : List (Key × D) := M.map fun p => (kN p.1, gD p.2)
def lkM (M : List (Nat × Gate)) (k : Nat) : Option Gate := (M.find? fun p => decide (p.1 = k)).map (·.2)
theorem lk_dN (M : List (Nat × Gate)) (k : Nat) : lkD (dN M) (kN k) = (lkM M k).map gD := by
  induction M with
  | nil => rfl
  | cons p M ih =>
    unfold dN lkM at ih ⊢
    rw [List.map_cons]
    by_cases h : p.1 = k
    · subst h
      simp [lkD, List.find?_cons]
    · have h1 : ¬ kN p.1 = kN k := fun z => h (kN_inj z)
      simp only [lkD, List.find?_cons, h1, h, decide_false] at ih ⊢
      exact ih
theorem lkM_mem {M : List (Nat × Gate)} {k : Nat} {g : Gate} (h : lkM M k = some g) : (k, g) ∈ M := by
  unfold lkM at h
  cases z : M.find? (fun p => decide (p.1 = k)) with
  | none => rw [z] at h; cases h
  | some p =>
    rw [z] at h
    cases h
    have h1 := List.mem_of_find?_eq_some z
    have h2 := List.find?_some z
    have h2 : p.1 = k := by simpa using h2
    rw [← h2]
    exact h1
theorem lkM_of {M : List (Nat × Gate)} {k : Nat} {g : Gate} (hn : (M.map (·.1)).Nodup) (h : (k, g) ∈ M) : lkM M k = some g := by
  induction M with
  | nil => cases h
  | cons p M ih =>
    rw [List.map_cons] at hn
    have hn := List.nodup_cons.mp hn
    unfold lkM at ih ⊢
    rcases List.mem_cons.mp h with e | h
    · subst e
      simp [List.find?_cons]
    · have hp : ¬ p.1 = k := fun e => hn.1 (List.mem_map.mpr ⟨(k, g), h, e.symm⟩)
      rw [List.find?_cons, decide_eq_false hp]
      exact ih hn.2 h
theorem lkM_none {M : List (Nat × Gate)} {k : Nat} (h : lkM M k = none) : k ∉ M.map (·.1) := fun hk => by
  obtain ⟨p, hp, e⟩ := List.mem_map.mp hk
  unfold lkM at h
  rw [Option.map_eq_none_iff, List.find?_eq_none] at h
  exact h p hp (by simpa using e)
def dinE (neg : Bool) (o : Option D) (k : Option Key) (s : S) : R D := match o, k with
  | some (.dict es), some k => R.of ((kesD es).map fun m => .bool (neg ^^ (lkD m k).isSome)) s
  | _, _ => .bad
@[simp] theorem fDin_s (neg : Bool) (i : Nat) (f : FE) (s : S) : fDin neg i f s = (f s).bind fun d s => dinE neg (lkE s.ρ[i]?) (kD d) s := by
  unfold fDin dinE
  congr 1
@[simp] theorem dinE_dicD (neg : Bool) (m : List (Key × D)) (k : Key) (s : S) : dinE neg (some (dicD m)) (some k) s = .ok (.bool (neg ^^ (lkD m k).isSome)) s := by
  unfold dinE dicD
  dsimp only
  rw [kesD_dic]
  rfl
theorem forD_ret {β : Type} {kl : List Nat} {tg : FG} {body : FO} (v : β → D) (st : S) (Q : D → Prop) : ∀ (xs : List β), (∀ x ∈ xs, ∃ s1, tg (v x) st = some s1 ∧ ((∃ s2, body s1 = .nx s2 ∧ kill kl s2 = st) ∨ ∃ d s2, body s1 = .rt d s2 ∧ Q d ∧ s2.w = st.w)) →
    forD kl tg body (xs.map v) st = .nx st ∨ ∃ d s2, forD kl tg body (xs.map v) st = .rt d s2 ∧ Q d ∧ s2.w = st.w
  | [], _ => .inl rfl
  | x :: xs, h => by
    obtain ⟨s1, e1, h1⟩ := h x List.mem_cons_self
    rw [List.map_cons, forD, e1]
    dsimp only
    rcases h1 with ⟨s2, e2, e3⟩ | ⟨d, s2, e2, q, ew⟩
    · rw [e2]
      dsimp only
      rw [e3]
      exact forD_ret v st Q xs fun y hy => h y (List.mem_cons_of_mem _ hy)
    · rw [e2]
      exact .inr ⟨d, s2, rfl, q, ew⟩
/-- a gate's form -/
structure GF (g : Gate) : Prop where
  fan : g.1.length ≤ 6
  len : g.2.length = 2 ^ g.1.length
  bit : ∀ x ∈ g.2, x < 2
def goB : FO := (sIf (fAnd (tVal (fBin dGe (fSlot 5) (fSlot 4))) (fAnd (tVal (fBin dEq (fIxS 2 (fSlot 5)) (fC (.int 1)))) (tVal (fDin false 1 (fSlot 5))))) (sSeq (sAsg (fCall 3 sem_signals_together (fCons (fIxS 0 (fC (.int 0))) (fCons (fSlot 5) (fCons (fIx (fIxX 1 (fSlot 5)) (fC (.int 0))) fNil)))) (gNm 6))
    (sIf (tVal (fBin dLe (fLenS 6) (fSlot 3))) (sRet (fTup (fCons (fSlot 5) (fCons (fTup (fCons (fSlot 6) (fCons (fCall 4 sem_words_together (fCons (fSlot 0) (fCons (fSlot 5) (fCons (fIxX 1 (fSlot 5)) (fCons (fSlot 6) fNil))))) fNil))) fNil)))) sNil)) sNil)
/-- what a gathering gives -/
structure Got (t : Gate) (M : List (Nat × Gate)) (us : List Nat) (fan first s : Nat) (inner g : Gate) : Prop where
  hs : s ∈ t.1
  ge : first ≤ s
  use : nth us s = 1
  lk : lkM M s = some inner
  fan : g.1.length ≤ fan
  rep : Rep g (fun x => (x ∈ t.1 ∧ x ≠ s) ∨ x ∈ inner.1) (togF t s inner)
theorem dLe_nn (a b : Nat) : dLe (nD a) (nD b) = some (.bool (decide (a ≤ b))) := by
  show some (PyData.bool (decide ((a : Int) ≤ (b : Int)))) = _
  congr 2
  exact decide_eq_decide.mpr Int.ofNat_le
theorem dGe_nn (a b : Nat) : dGe (nD a) (nD b) = some (.bool (decide (b ≤ a))) := by
  show some (PyData.bool (decide ((b : Int) ≤ (a : Int)))) = _
  congr 2
  exact decide_eq_decide.mpr Int.ofNat_le
theorem goB_ok (t : Gate) (M : List (Nat × Gate)) (us : List Nat) (fan first s : Nat) (hf : 2 ≤ first) (hfan : fan ≤ 6) (ht : GF t) (hM : ∀ p ∈ M, GF p.2) (hs : s ∈ t.1) (hu : s < us.length) (w : Wst) :
    let st1 : S := ⟨[some (.val (gD t)), some (.val (dicD (dN M))), some (.val (.list (us.map nD))), some (.val (nD fan)), some (.val (nD first)), some (.val (nD s)), none], w⟩
    (∃ s2, goB st1 = .nx s2 ∧ kill [5, 6] s2 = ⟨[some (.val (gD t)), some (.val (dicD (dN M))), some (.val (.list (us.map nD))), some (.val (nD fan)), some (.val (nD first)), none, none], w⟩) ∨
    ∃ d s2, goB st1 = .rt d s2 ∧ (∃ s inner g, Got t M us fan first s inner g ∧ d = .tuple [nD s, gD g]) ∧ s2.w = w := by
  intro st1
  have sl : (2000 : Nat) ≤ sizeLine := by decide
  have s2 : (2 : Nat) ≤ sizeLine := by decide
  have e1 := dGe_nn s first
  have e2 := atI_nD hu
  have e3 := dEq_nD (nth us s) 1
  have n1 : nD 1 = .int 1 := rfl
  rw [n1] at e3
  have lk := lk_dN M s
  unfold kN at lk
  by_cases c1 : first ≤ s
  · rw [decide_eq_true c1] at e1
    by_cases c2 : nth us s = 1
    · rw [decide_eq_true c2] at e3
      cases c3 : lkM M s with
      | none =>
        rw [c3] at lk
        refine .inl ⟨st1, ?_, rfl⟩
        unfold goB
        simp -implicitDefEqProofs only [nD_eq] at e2 e1 e3
        simp -implicitDefEqProofs [st1, nD_eq, e1, e2, e3, lk]
      | some inner =>
        rw [c3] at lk
        have lk : lkD (dN M) (.inl (s : Int)) = some (gD inner) := lk
        have gi : GF inner := hM _ (lkM_mem c3)
        obtain ⟨sg, es, ha, hm⟩ := signals_together_ok t.1 inner.1 s (by have := ht.fan; omega) (by have := gi.fan; omega) hs w
        have a0 := (tup_ix t).1
        have b0 : dIx (gD inner) (.int 0) = some (.tuple (inner.1.map nD)) := rfl
        have b1 : dIx (gD t) (.int 0) = some (.tuple (t.1.map nD)) := rfl
        have e4 := dLe_nn sg.length fan
        have ln : nD sg.length = .int (sg.length : Int) := rfl
        by_cases c4 : sg.length ≤ fan
        · rw [decide_eq_true c4, ln] at e4
          have ew := words_together_ok t inner s sg (by omega) ha (by omega) ht.fan ht.len gi.fan gi.len gi.bit hm w
          refine .inr ⟨.tuple [nD s, gD (tab (togF t s inner) sg)], ⟨[some (.val (gD t)), some (.val (dicD (dN M))), some (.val (.list (us.map nD))), some (.val (nD fan)), some (.val (nD first)), some (.val (nD s)), some (.val (.tuple (sg.map nD)))], w⟩, ?_, ⟨s, inner, _, ⟨hs, c1, c2, c3, c4, ?_⟩, rfl⟩, rfl⟩
          · unfold goB
            have gt : gD (tab (togF t s inner) sg) = .tuple [.tuple (sg.map nD), .tuple ((tab (togF t s inner) sg).2.map nD)] := rfl
            rw [gt]
            generalize (tab (togF t s inner) sg).2 = WD at *
            simp -implicitDefEqProofs only [nD_eq s] at e2 e1 es ew ⊢
            simp -implicitDefEqProofs [st1, nD_eq s, e1, e2, e3, lk, b0, b1, es, e4, ew, s2]
          · refine tab_rep ha hm (fun a b ea eb h => ?_) (fun ρ e => gval_lt (togF_env e (by omega) (gval_lt e gi.len gi.bit)) ht.len ht.bit)
            unfold togF
            have hi : gval a inner = gval b inner := gval_congr fun x hx => h x (.inl (.inr hx))
            rw [hi]
            exact gval_congr fun x hx => by
              by_cases q : x = s
              · rw [if_pos q, if_pos q]
              · rw [if_neg q, if_neg q]
                exact h x (.inl (.inl ⟨hx, q⟩))
        · rw [decide_eq_false c4, ln] at e4
          refine .inl ⟨⟨[some (.val (gD t)), some (.val (dicD (dN M))), some (.val (.list (us.map nD))), some (.val (nD fan)), some (.val (nD first)), some (.val (nD s)), some (.val (.tuple (sg.map nD)))], w⟩, ?_, rfl⟩
          unfold goB
          simp -implicitDefEqProofs only [nD_eq s] at e2 e1 es ⊢
          simp -implicitDefEqProofs [st1, nD_eq s, e1, e2, e3, lk, b0, b1, es, e4, s2]
    · rw [decide_eq_false c2] at e3
      refine .inl ⟨st1, ?_, rfl⟩
      unfold goB
      simp -implicitDefEqProofs only [nD_eq s] at e2 e1
      simp -implicitDefEqProofs [st1, nD_eq s, e1, e2, e3]
  · rw [decide_eq_false c1] at e1
    refine .inl ⟨st1, ?_, rfl⟩
    unfold goB
    simp -implicitDefEqProofs [st1, e1]
theorem gathered_once_ok (t : Gate) (M : List (Nat × Gate)) (us : List Nat) (fan first : Nat) (hf : 2 ≤ first) (hfan : fan ≤ 6) (ht : GF t) (hM : ∀ p ∈ M, GF p.2) (hu : ∀ s ∈ t.1, s < us.length) (w : Wst) :
    sem_gathered_once [gD t, dicD (dN M), .list (us.map nD), nD fan, nD first] w = .ret .none w ∨ ∃ s inner g, Got t M us fan first s inner g ∧ sem_gathered_once [gD t, dicD (dN M), .list (us.map nD), nD fan, nD first] w = .ret (.tuple [nD s, gD g]) w := by
  have z := forD_ret (kl := [5, 6]) (tg := gNm 5) (body := goB) nD ⟨[some (.val (gD t)), some (.val (dicD (dN M))), some (.val (.list (us.map nD))), some (.val (nD fan)), some (.val (nD first)), none, none], w⟩ (fun d => ∃ s inner g, Got t M us fan first s inner g ∧ d = .tuple [nD s, gD g]) t.1 fun s hs => ⟨_, rfl, goB_ok t M us fan first s hf hfan ht hM hs (hu s hs) w⟩
  have key : f_gathered_once = sSeq (sFor [5, 6] (fIt (fIxS 0 (fC (.int 0)))) (gNm 5) goB) (sRet (fC .none)) := rfl
  have b1 : dIx (gD t) (.int 0) = some (.tuple (t.1.map nD)) := rfl
  simp only [sem_gathered_once, semOf, startS, key]
  generalize goB = GB at *
  rcases z with z | ⟨d, s2, z, ⟨s, inner, g, got, rfl⟩, hw⟩
  · left
    simp -implicitDefEqProofs [b1, z]
  · refine .inr ⟨s, inner, g, got, ?_⟩
    have hw : s2.w = w := hw
    simp -implicitDefEqProofs [b1, z, hw]
end Lk17
namespace Lk17
open PySem PySem.Spec L2 PD
open PyProof.Rows hiding St
/-! ### how often signals are used -/
def useI (us : List Nat) (x : Nat) : List Nat := us.set x (nth us x + 1)
def usesN (n : Nat) (gs : List Gate) (os : List Nat) : List Nat := os.foldl useI (gs.foldl (fun us g => g.1.foldl useI us) (List.replicate (2 + n + gs.length) 0))
theorem useI_len (us : List Nat) (x : Nat) : (useI us x).length = us.length := List.length_set
theorem fold_use_len : ∀ (l us : List Nat), (l.foldl useI us).length = us.length
  | [], us => rfl
  | x :: l, us => by rw [List.foldl_cons, fold_use_len l, useI_len]
theorem nth_set (us : List Nat) (x v y : Nat) (hx : x < us.length) : nth (us.set x v) y = if y = x then v else nth us y := by
  unfold nth
  rw [List.getD_eq_getElem?_getD, List.getD_eq_getElem?_getD, List.getElem?_set]
  by_cases h : x = y
  · subst h
    rw [if_pos rfl, if_pos rfl, if_pos hx]
    rfl
  · rw [if_neg h, if_neg fun e => h e.symm]
theorem fold_use : ∀ (l us : List Nat) (y : Nat), (∀ x ∈ l, x < us.length) → nth (l.foldl useI us) y = nth us y + l.count y
  | [], us, y, _ => by simp
  | x :: l, us, y, h => by
    have hx := h x List.mem_cons_self
    rw [List.foldl_cons, fold_use l (useI us x) y fun z hz => by rw [useI_len]; exact h z (List.mem_cons_of_mem _ hz)]
    unfold useI
    rw [nth_set us x _ y hx, List.count_cons]
    by_cases e : y = x
    · subst e
      simp
      omega
    · have e' : ¬ x = y := fun z => e z.symm
      simp [e, e']
theorem fold_use2 : ∀ (gs : List Gate) (us : List Nat), gs.foldl (fun us g => g.1.foldl useI us) us = (gs.flatMap (·.1)).foldl useI us
  | [], us => rfl
  | g :: gs, us => by rw [List.foldl_cons, fold_use2 gs, List.flatMap_cons, List.foldl_append]
theorem usesN_len (n : Nat) (gs : List Gate) (os : List Nat) : (usesN n gs os).length = 2 + n + gs.length := by
  unfold usesN
  rw [fold_use_len, fold_use2, fold_use_len, List.length_replicate]
theorem usesN_at {n : Nat} {gs : List Gate} {os : List Nat} (ok : NetOk n gs) (ho : ∀ x ∈ os, x < 2 + n + gs.length) (y : Nat) : nth (usesN n gs os) y = (gs.flatMap (·.1)).count y + os.count y := by
  unfold usesN
  rw [fold_use _ _ _ (by rw [fold_use2, fold_use_len, List.length_replicate]; exact ho), fold_use2, fold_use _ _ _ fun x hx => by
    rw [List.length_replicate]
    obtain ⟨g, hg, hx⟩ := List.mem_flatMap.mp hx
    obtain ⟨i, hi⟩ := List.mem_iff_getElem?.mp hg
    have := (ok i g hi).sig x hx
    have h2 : i < gs.length := (List.getElem?_eq_some_iff.mp hi).1
    omega]
  have : nth (List.replicate (2 + n + gs.length) 0) y = 0 := by
    unfold nth
    rw [List.getD_eq_getElem?_getD, List.getElem?_replicate]
    split <;> rfl
  rw [this, Nat.zero_add]
theorem map_set_nD (us : List Nat) (x v : Nat) : (us.map nD).set x (nD v) = (us.set x v).map nD := by
  rw [List.map_set]
theorem aug_ok (i j : Nat) (hij : i ≠ j) (us : List Nat) (x : Nat) (hx : x < us.length) (s : S) (hi : s.ρ[i]? = some (some (.own (us.map nD)))) (hj : s.ρ[j]? = some (some (.val (nD x)))) : sAugIx i (fSlot j) (fC (.int 1)) s = .nx (s.put i (.own ((useI us x).map nD))) := by
  have e1 : (us.map nD)[x]? = some (nD (nth us x)) := by
    rw [List.getElem?_map, List.getElem?_eq_getElem hx, nth_lt hx]
    rfl
  have hj' : s.ρ[j]? = some (some (.val (.int (x : Int)))) := hj
  unfold sAugIx
  rw [look_s, hi]
  simp only [lkE_own, Option.isSome_some, if_true, fSlot_s, rdSlot_s, hj', rdE_val, R.stm_ok, hi]
  rw [if_pos (Int.natCast_nonneg _), Int.toNat_natCast, e1]
  show (fC (PyData.int 1) s).stm _ = _
  rw [fC_s, R.stm_ok, hi]
  show (if x < (us.map nD).length then O.nx (s.put i (.own ((us.map nD).set x (.int ((nth us x : Int) + 1))))) else O.bad) = _
  rw [if_pos (by rw [List.length_map]; exact hx)]
  unfold useI
  rw [← map_set_nD]
  rfl
theorem uses_of_ok {n : Nat} {gs : List Gate} {os : List Nat} (ok : NetOk n gs) (ho : ∀ x ∈ os, x < 2 + n + gs.length) (hsz : n + gs.length ≤ 1000) (w : Wst) : sem_uses_of [netD n gs os] w = .ret (.list ((usesN n gs os).map nD)) w := by
  have sl : (2000 : Nat) ≤ sizeLine := by decide
  have inner : ∀ (e0 e2 e3 : Option Ent) (l us : List Nat), (∀ x ∈ l, x < us.length) → forD [4] (gNm 4) (sAugIx 1 (fSlot 4) (fC (.int 1))) (l.map nD) ⟨[e0, some (.own (us.map nD)), e2, e3, none], w⟩ = .nx ⟨[e0, some (.own ((l.foldl useI us).map nD)), e2, e3, none], w⟩ := fun e0 e2 e3 l us h => by
    have z := forD_fold (kl := [4]) (tg := gNm 4) (body := sAugIx 1 (fSlot 4) (fC (.int 1))) nD (fun us : List Nat => (⟨[e0, some (.own (us.map nD)), e2, e3, none], w⟩ : S)) useI (fun v => v.length = us.length) l (fun v x hx hv => by
      refine ⟨by rw [useI_len, hv], _, _, rfl, .inl (aug_ok 1 4 (by decide) v x (by rw [hv]; exact h x hx) _ rfl rfl), rfl⟩) us rfl
    exact z.1
  have z := forD_fold (kl := [2, 3, 4]) (tg := (gTp 2 (gCo (gNm 2) (gCo (gNm 3) gNo)))) (body := sFor [4] (fIt (fSlot 2)) (gNm 4) (sAugIx 1 (fSlot 4) (fC (.int 1)))) gD (fun us : List Nat => (⟨[some (.val (netD n gs os)), some (.own (us.map nD)), none, none, none], w⟩ : S)) (fun us g => g.1.foldl useI us) (fun v => v.length = 2 + n + gs.length) gs (fun v g hg hv => by
    have hx : ∀ x ∈ g.1, x < v.length := fun x hx => by
      obtain ⟨i, hi⟩ := List.mem_iff_getElem?.mp hg
      have := (ok i g hi).sig x hx
      have h2 : i < gs.length := (List.getElem?_eq_some_iff.mp hi).1
      omega
    have ei := inner (some (.val (netD n gs os))) (some (.val (.tuple (g.1.map nD)))) (some (.val (.tuple (g.2.map nD)))) g.1 v hx
    refine ⟨by rw [fold_use_len, hv], ⟨[some (.val (netD n gs os)), some (.own (v.map nD)), some (.val (.tuple (g.1.map nD))), some (.val (.tuple (g.2.map nD))), none], w⟩, ⟨[some (.val (netD n gs os)), some (.own ((g.1.foldl useI v).map nD)), some (.val (.tuple (g.1.map nD))), some (.val (.tuple (g.2.map nD))), none], w⟩, rfl, .inl ?_, rfl⟩
    generalize (sAugIx 1 (fSlot 4) (fC (.int 1))) = AI at *
    simp -implicitDefEqProofs [ei]) (List.replicate (2 + n + gs.length) 0) (by rw [List.length_replicate])
  have z1 := z.1
  have last : ∀ (us : List Nat) (e4 : Option Ent), (∀ x ∈ os, x < us.length) → ∃ e4', forD [] (gNm 4) (sAugIx 1 (fSlot 4) (fC (.int 1))) (os.map nD) ⟨[some (.val (netD n gs os)), some (.own (us.map nD)), none, none, e4], w⟩ = .nx ⟨[some (.val (netD n gs os)), some (.own ((os.foldl useI us).map nD)), none, none, e4'], w⟩ := fun us e4 h => by
    have z := forD_fold (kl := []) (tg := gNm 4) (body := sAugIx 1 (fSlot 4) (fC (.int 1))) nD (fun p : List Nat × Option Ent => (⟨[some (.val (netD n gs os)), some (.own (p.1.map nD)), none, none, p.2], w⟩ : S)) (fun p x => (useI p.1 x, some (.val (nD x)))) (fun p => p.1.length = us.length) os (fun p x hx hv => by
      refine ⟨by rw [useI_len, hv], _, _, rfl, .inl (aug_ok 1 4 (by decide) p.1 x (by rw [hv]; exact h x hx) _ rfl rfl), rfl⟩) (us, e4) rfl
    have f : ∀ (l : List Nat) (p : List Nat × Option Ent), (l.foldl (fun p x => (useI p.1 x, some (Ent.val (nD x)))) p).1 = l.foldl useI p.1 := by
      intro l
      induction l with
      | nil => intro p; rfl
      | cons x l ih => intro p; rw [List.foldl_cons, List.foldl_cons, ih]
    have z1 := z.1
    rw [f] at z1
    exact ⟨_, z1⟩
  obtain ⟨e4', e2⟩ := last (gs.foldl (fun us g => g.1.foldl useI us) (List.replicate (2 + n + gs.length) 0)) none (by rw [fold_use2, fold_use_len, List.length_replicate]; exact ho)
  have key : f_uses_of = sSeq (sSetO 1 (fRepL (fCons (fC (.int 0)) fNil) (fBin dAddX (fBin dAddX (fC (.int 2)) (fIxS 0 (fC (.int 0)))) (fLen (fIxS 0 (fC (.int 1))))))) (sSeq (sFor [2, 3, 4] (fIt (fIxS 0 (fC (.int 1)))) (gTp 2 (gCo (gNm 2) (gCo (gNm 3) gNo))) (sFor [4] (fIt (fSlot 2)) (gNm 4) (sAugIx 1 (fSlot 4) (fC (.int 1)))))
    (sSeq (sFor [] (fIt (fIxS 0 (fC (.int 2)))) (gNm 4) (sAugIx 1 (fSlot 4) (fC (.int 1)))) (sRet (fSlot 1)))) := rfl
  simp only [sem_uses_of, semOf, startS, key]
  have a0 : dIx (netD n gs os) (.int 0) = some (nD n) := rfl
  have a1 : dIx (netD n gs os) (.int 1) = some (.tuple (gs.map gD)) := rfl
  have a2 : dIx (netD n gs os) (.int 2) = some (.tuple (os.map nD)) := rfl
  have er : repD [.int 0] (nD (2 + n + gs.length)) = some ((List.replicate (2 + n + gs.length) 0).map nD) := by
    rw [List.map_replicate]
    exact repD_nat (by omega)
  have ea : dAddX (.int 2) (nD n) = some (nD (2 + n)) := rfl
  have eb : dAddX (nD (2 + n)) (.int (gs.length : Int)) = some (nD (2 + n + gs.length)) := rfl
  have s1 : (1 : Nat) ≤ sizeLine := by decide
  unfold usesN
  generalize (sAugIx 1 (fSlot 4) (fC (.int 1))) = AI at *
  generalize (sFor [4] (fIt (fSlot 2)) (gNm 4) AI) = FO at *
  generalize (List.replicate (2 + n + gs.length) 0) = L0 at *
  simp -implicitDefEqProofs [a0, a1, a2, er, ea, eb, z1, s1, e2]
end Lk17
namespace Lk17
open PySem PySem.Spec L2 PD
open PyProof.Rows hiding St
/-! ### dicts by lists -/
def atE (f : Nat → D) (L : List Nat) : List (Key × D) := L.map fun x => (kN x, f x)
theorem lk_atE (f : Nat → D) (L : List Nat) (x : Nat) (h : x ∈ L) : lkD (atE f L) (kN x) = some (f x) := by
  induction L with
  | nil => cases h
  | cons a L ih =>
    unfold atE at ih ⊢
    rw [List.map_cons]
    by_cases e : a = x
    · subst e
      simp [lkD, List.find?_cons]
    · have h1 : ¬ kN a = kN x := fun z => e (kN_inj z)
      have h2 : x ∈ L := (List.mem_cons.mp h).resolve_left fun z => e z.symm
      have := ih h2
      simp only [lkD, List.find?_cons, h1, decide_false] at this ⊢
      exact this
theorem put_new {es : List (Key × D)} {k : Key} {d : D} (h : ∀ p ∈ es, ¬ p.1 = k) : putKD es k d = es ++ [(k, d)] := by
  unfold putKD
  rw [if_neg]
  rw [List.any_eq_true]
  rintro ⟨p, hp, e⟩
  exact h p hp (by simpa using e)
theorem put_atE (f : Nat → D) (L : List Nat) (k : Nat) (h : k ∉ L) : putKD (atE f L) (kN k) (f k) = atE f (L ++ [k]) := by
  rw [put_new]
  · unfold atE
    rw [List.map_append]
    rfl
  · intro p hp e
    obtain ⟨x, hx, rfl⟩ := List.mem_map.mp hp
    exact h (kN_inj e ▸ hx)
theorem dcmp_pure {vs : List Nat} {tg : FG} {fk fv : FE} (f : Nat → D) (s : S) : ∀ (xs L : List Nat), (∀ x ∈ xs, ∃ s1 s2 s3, tg (nD x) s = some s1 ∧ fk s1 = .ok (nD x) s2 ∧ fv s2 = .ok (f x) s3 ∧ kill vs s3 = s) → (L ++ xs).Nodup → L.length + xs.length ≤ 1000 →
    dcmpD vs tg fYes fk fv (xs.map nD) (atE f L) s = .ok (atE f (L ++ xs)) s
  | [], L, _, _, _ => by rw [List.append_nil]; rfl
  | x :: xs, L, h, hn, hl => by
    have sl : (2000 : Nat) ≤ sizeLine := by decide
    obtain ⟨s1, s2, s3, e1, e2, e3, e4⟩ := h x List.mem_cons_self
    have e : L ++ x :: xs = (L ++ [x]) ++ xs := by simp
    have hx : x ∉ L := fun hx => by
      rw [List.nodup_append] at hn
      exact hn.2.2 x hx x List.mem_cons_self rfl
    rw [e] at hn ⊢
    have ih := dcmp_pure (vs := vs) (fk := fk) (fv := fv) f s xs (L ++ [x]) (fun y hy => h y (List.mem_cons_of_mem _ hy)) hn (by simp at hl ⊢; omega)
    rw [← ih, List.map_cons, dcmpD, e1]
    dsimp only
    simp only [fYes_s, R.nox_ok, R.bind_ok, if_true, e2, e3, kD_nD, R.of_some, e4]
    rw [if_pos (by unfold atE; rw [List.length_map]; simp at hl; omega)]
    have := put_atE f L x hx
    unfold kN at this
    rw [this]
theorem asc_ext : ∀ {l m : List Nat}, l.Pairwise (· < ·) → m.Pairwise (· < ·) → (∀ x, x ∈ l ↔ x ∈ m) → l = m
  | [], [], _, _, _ => rfl
  | [], b :: m, _, _, h => absurd ((h b).mpr List.mem_cons_self) (by simp)
  | a :: l, [], _, _, h => absurd ((h a).mp List.mem_cons_self) (by simp)
  | a :: l, b :: m, h1, h2, h => by
    have q1 := List.pairwise_cons.mp h1
    have q2 := List.pairwise_cons.mp h2
    have e : a = b := by
      have ha := (h a).mp List.mem_cons_self
      have hb := (h b).mpr List.mem_cons_self
      rcases List.mem_cons.mp ha with e | ha
      · exact e
      · rcases List.mem_cons.mp hb with e | hb
        · exact e.symm
        · have := q1.1 b hb
          have := q2.1 a ha
          omega
    subst e
    rw [asc_ext q1.2 q2.2 fun x => ⟨fun hx => ?_, fun hx => ?_⟩]
    · have := q1.1 x hx
      exact (List.mem_cons.mp ((h x).mp (List.mem_cons_of_mem _ hx))).resolve_left (by omega)
    · have := q2.1 x hx
      exact (List.mem_cons.mp ((h x).mpr (List.mem_cons_of_mem _ hx))).resolve_left (by omega)
/-! ### gates numbered anew -/
def keysOf (M : List (Nat × Gate)) : List Nat := M.map (·.1)
def atF (first : Nat) (ks : List Nat) (x : Nat) : Nat := if x < first then x else first + ks.idxOf x
def newG (f : Nat → Nat) (g : Gate) : Gate := (g.1.map f, g.2)
theorem sortD_gates {M : List (Nat × Gate)} (hl : M.length < 64) (ha : (keysOf M).Pairwise (· < ·)) : sdE (dicD (dN M)) = some ((keysOf M).map nD) := by
  obtain ⟨sg, e, h1, h2, _⟩ := sdE_map (fun p : Nat × Gate => p.1) (fun p => gD p.2) M hl (asc_nodup ha)
  rw [asc_ext h1 ha h2] at e
  exact e
/-- what a dict of gates must have to be numbered anew -/
structure Cl (first : Nat) (M : List (Nat × Gate)) (os : List Nat) : Prop where
  asc : (keysOf M).Pairwise (· < ·)
  ge : ∀ k ∈ keysOf M, first ≤ k
  sig : ∀ p ∈ M, ∀ x ∈ p.2.1, x < p.1 ∧ (first ≤ x → x ∈ keysOf M)
  out : ∀ x ∈ os, first ≤ x → x ∈ keysOf M
  gf : ∀ p ∈ M, GF p.2
def rnB : FO := (sSeq (sSetD 3 (fBin dAddX (fSlot 2) (fLenS 4)) (fSlot 5))
    (sSeq (sAsg (fIxX 1 (fSlot 5)) (gTp 2 (gCo (gNm 6) (gCo (gNm 7) gNo))))
    (sApp 4 (fTup (fCons (fB1 dTup (fFz (fComp [8] (fIt (fSlot 6)) (gNm 8) fYes (fIxX 3 (fSlot 8))))) (fCons (fSlot 7) fNil))))))
theorem idx_take {ks : List Nat} (hn : ks.Nodup) {i : Nat} (hi : i < ks.length) : ks.idxOf ks[i] = i := List.Nodup.idxOf_getElem hn i hi
theorem renumbered_ok {n : Nat} {gs : List Gate} {os : List Nat} {M : List (Nat × Gate)} (cl : Cl (2 + n) M os) (hl : M.length < 64) (hn : n ≤ 500) (hos : os.length ≤ 900) (w : Wst) :
    sem_renumbered [netD n gs os, dicD (dN M)] w = .ret (netD n (M.map fun p => newG (atF (2 + n) (keysOf M)) p.2) (os.map (atF (2 + n) (keysOf M)))) w := by
  have sl : (2000 : Nat) ≤ sizeLine := by decide
  have s2 : (2 : Nat) ≤ sizeLine := by decide
  have s3 : (3 : Nat) ≤ sizeLine := by decide
  have s0 : (0 : Nat) ≤ sizeLine := by decide
  let at_ := atF (2 + n) (keysOf M)
  have nd := asc_nodup cl.asc
  have c0 := dcmp_pure (vs := [5]) (tg := gNm 5) (fk := fSlot 5) (fv := fSlot 5) (fun x => nD (at_ x)) ⟨[some (.val (netD n gs os)), some (.val (dicD (dN M))), some (.val (nD (2 + n))), none, none, none, none, none, none], w⟩ (List.range (2 + n)) [] (fun x hx => by
    have hx := List.mem_range.mp hx
    refine ⟨_, ⟨[some (.val (netD n gs os)), some (.val (dicD (dN M))), some (.val (nD (2 + n))), none, none, some (.val (nD x)), none, none, none], w⟩, ⟨[some (.val (netD n gs os)), some (.val (dicD (dN M))), some (.val (nD (2 + n))), none, none, some (.val (nD x)), none, none, none], w⟩, rfl, rfl, ?_, rfl⟩
    have e : at_ x = x := if_pos hx
    rw [e]
    rfl) (by rw [List.nil_append]; exact List.nodup_range) (by simp; omega)
  rw [List.nil_append] at c0
  have z := forD_foldi (kl := [5, 6, 7]) (tg := gNm 5) (body := rnB) (fun p : Nat × Gate => nD p.1) (fun P : List (Nat × Gate) => (⟨[some (.val (netD n gs os)), some (.val (dicD (dN M))), some (.val (nD (2 + n))), some (.dic (atE (fun x => nD (at_ x)) (List.range (2 + n) ++ keysOf P))), some (.own ((P.map fun p => newG at_ p.2).map gD)), none, none, none, none], w⟩ : S)) (fun P p => P ++ [p]) (fun i P => P = M.take i) M 0 (fun i P p hp h => by
    rw [Nat.zero_add] at h ⊢
    have hi : i < M.length := (List.getElem?_eq_some_iff.mp hp).1
    have hPl : P.length = i := by rw [h, List.length_take]; omega
    have hpm : p ∈ M := List.mem_of_getElem? hp
    have hk : p.1 ∈ keysOf M := List.mem_map.mpr ⟨p, hpm, rfl⟩
    have hge := cl.ge _ hk
    have hki : (keysOf M)[i]? = some p.1 := by unfold keysOf; rw [List.getElem?_map, hp]; rfl
    have hkil : i < (keysOf M).length := by unfold keysOf; rw [List.length_map]; exact hi
    have hke : (keysOf M)[i] = p.1 := by rw [List.getElem?_eq_getElem hkil] at hki; exact Option.some.inj hki
    have hidx : (keysOf M).idxOf p.1 = i := by rw [← hke]; exact idx_take nd hkil
    have hat : at_ p.1 = 2 + n + i := by
      show (if p.1 < 2 + n then p.1 else 2 + n + (keysOf M).idxOf p.1) = _
      rw [if_neg (by omega), hidx]
    have hkP : keysOf P = (keysOf M).take i := by rw [h]; unfold keysOf; rw [List.map_take]
    have hnew : p.1 ∉ List.range (2 + n) ++ keysOf P := fun hm => by
      rcases List.mem_append.mp hm with q | q
      · have := List.mem_range.mp q; omega
      · rw [hkP] at q
        obtain ⟨j, hj, e⟩ := List.mem_iff_getElem.mp q
        rw [List.length_take] at hj
        rw [List.getElem_take] at e
        have e2 : (keysOf M)[j]'(by omega) = (keysOf M)[i] := e.trans hke.symm
        have := List.pairwise_iff_getElem.mp cl.asc j i (by omega) hkil (by omega)
        omega
    have ep := put_atE (fun x => nD (at_ x)) _ p.1 hnew
    have hkP2 : keysOf (P ++ [p]) = keysOf P ++ [p.1] := by unfold keysOf; rw [List.map_append]; rfl
    have lkg := lk_dN M p.1
    rw [lkM_of nd (show (p.1, p.2) ∈ M from hpm)] at lkg
    have lkg : lkD (dN M) (.inl (p.1 : Int)) = some (gD p.2) := lkg
    have hsz : (atE (fun x => nD (at_ x)) (List.range (2 + n) ++ keysOf P)).length < sizeLine := by
      unfold atE keysOf
      simp
      omega
    have gfan := (cl.gf p hpm).fan
    have c := read_word 3 8 (by decide) ⟨[some (.val (netD n gs os)), some (.val (dicD (dN M))), some (.val (nD (2 + n))), some (.dic (atE (fun x => nD (at_ x)) (List.range (2 + n) ++ keysOf (P ++ [p])))), some (.own ((P.map fun p => newG at_ p.2).map gD)), some (.val (nD p.1)), some (.val (.tuple (p.2.1.map nD))), some (.val (.tuple (p.2.2.map nD))), none], w⟩ (show 8 < 9 by decide) _ rfl at_ [] p.2.1 rfl (fun d => rfl) (by omega) fun x hx => lk_atE _ _ x (by
      obtain ⟨q1, q2⟩ := cl.sig p hpm x hx
      by_cases hx2 : x < 2 + n
      · exact List.mem_append_left _ (List.mem_range.mpr hx2)
      · refine List.mem_append_right _ ?_
        rw [hkP2, hkP]
        refine List.mem_append_left _ ?_
        obtain ⟨j, hj, e⟩ := List.mem_iff_getElem.mp (q2 (by omega))
        have hji : j < i := by
          rcases Nat.lt_or_ge j i with h' | h'
          · exact h'
          · exfalso
            rcases Nat.lt_or_ge i j with h'' | h''
            · have := List.pairwise_iff_getElem.mp cl.asc i j hkil hj h''
              omega
            · have : i = j := by omega
              subst this
              omega
        exact List.mem_iff_getElem.mpr ⟨j, by rw [List.length_take]; omega, by rw [List.getElem_take]; exact e⟩)
    have hPm : ((P.map fun p => newG at_ p.2).map gD).length < sizeLine := by simp; omega
    have hgo : ((P ++ [p]).map fun p => newG at_ p.2).map gD = (P.map fun p => newG at_ p.2).map gD ++ [gD (newG at_ p.2)] := by simp
    have ea : dAddX (nD (2 + n)) (.int (((P.map fun p => newG at_ p.2).map gD).length : Int)) = some (nD (at_ p.1)) := by
      rw [hat, List.length_map, List.length_map, hPl]
      rfl
    have gn : gD (newG at_ p.2) = .tuple [.tuple ((p.2.1.map at_).map nD), .tuple (p.2.2.map nD)] := rfl
    have gp : gD p.2 = .tuple [.tuple (p.2.1.map nD), .tuple (p.2.2.map nD)] := rfl
    refine ⟨?_, _, ⟨[some (.val (netD n gs os)), some (.val (dicD (dN M))), some (.val (nD (2 + n))), some (.dic (atE (fun x => nD (at_ x)) (List.range (2 + n) ++ keysOf (P ++ [p])))), some (.own (((P ++ [p]).map fun p => newG at_ p.2).map gD)), some (.val (nD p.1)), some (.val (.tuple (p.2.1.map nD))), some (.val (.tuple (p.2.2.map nD))), none], w⟩, rfl, .inl ?_, rfl⟩
    · rw [h, List.take_add_one, hp]
      rfl
    · rw [hgo, gn]
      rw [hkP2, ← List.append_assoc] at c ⊢
      rw [← ep] at c ⊢
      unfold kN at c ⊢
      generalize (P.map fun p => newG at_ p.2).map gD = FD at *
      generalize atE (fun x => nD (at_ x)) (List.range (2 + n) ++ keysOf P) = ES at *
      unfold rnB
      rw [gp] at lkg
      simp -implicitDefEqProofs [ea, hsz, lkg, c, s2, hPm]) [] rfl
  obtain ⟨z1, z2⟩ := z
  rw [Nat.zero_add, List.take_length] at z2
  rw [z2] at z1
  have e0 : keysOf ([] : List (Nat × Gate)) = [] := rfl
  rw [e0, List.append_nil, List.map_nil, List.map_nil] at z1
  have c5 := read_word 3 5 (by decide) ⟨[some (.val (netD n gs os)), some (.val (dicD (dN M))), some (.val (nD (2 + n))), some (.dic (atE (fun x => nD (at_ x)) (List.range (2 + n) ++ keysOf M))), some (.val (.list ((M.map fun p => newG at_ p.2).map gD))), none, none, none, none], w⟩ (show 5 < 9 by decide) _ rfl at_ [] os rfl (fun d => rfl) (by omega) fun x hx => lk_atE _ _ x (by
    by_cases hx2 : x < 2 + n
    · exact List.mem_append_left _ (List.mem_range.mpr hx2)
    · exact List.mem_append_right _ (cl.out x hx (by omega)))
  have es := sortD_gates hl cl.asc
  have ek : (keysOf M).map nD = M.map fun p => nD p.1 := by unfold keysOf; rw [List.map_map]; rfl
  rw [ek] at es
  have a0 : dIx (netD n gs os) (.int 0) = some (nD n) := rfl
  have a2 : dIx (netD n gs os) (.int 2) = some (.tuple (os.map nD)) := rfl
  have ea : dAddX (.int 2) (nD n) = some (nD (2 + n)) := rfl
  have r1 : rng1 (nD (2 + n)) = some ((List.range (2 + n)).map nD) := rng1_nat (by omega)
  have key : f_renumbered = sSeq (sAsg (fBin dAddX (fC (.int 2)) (fIxS 0 (fC (.int 0)))) (gNm 2)) (sSeq (sSetN 3 (fDComp [5] (fR1 (fCons (fSlot 2) fNil)) (gNm 5) fYes (fSlot 5) (fSlot 5))) (sSeq (sSetO 4 (fLim fNil)) (sSeq (sFor [5, 6, 7] (fIt (fFz (fSortD 1))) (gNm 5) rnB)
    (sRet (fTup (fCons (fIxS 0 (fC (.int 0))) (fCons (fB1 dTup (fSlot 4)) (fCons (fB1 dTup (fFz (fComp [5] (fIt (fIxS 0 (fC (.int 2)))) (gNm 5) fYes (fIxX 3 (fSlot 5))))) fNil)))))))) := rfl
  have hnet : netD n (M.map fun p => newG (atF (2 + n) (keysOf M)) p.2) (os.map (atF (2 + n) (keysOf M))) = .tuple [nD n, .tuple ((M.map fun p => newG at_ p.2).map gD), .tuple ((os.map at_).map nD)] := rfl
  rw [hnet]
  simp only [sem_renumbered, semOf, startS, key]
  have e1 : atE (fun x => nD (at_ x)) [] = [] := rfl
  rw [e1] at c0
  generalize rnB = RB at *
  generalize (M.map fun p => newG at_ p.2).map gD = FD at *
  generalize (os.map at_).map nD = OD at *
  generalize atE (fun x => nD (at_ x)) (List.range (2 + n) ++ keysOf M) = E1 at *
  generalize atE (fun x => nD (at_ x)) (List.range (2 + n)) = E2 at *
  generalize (M.map fun p => nD p.1) = KD at *
  generalize (List.range (2 + n)).map nD = RD at *
  simp -implicitDefEqProofs [a0, ea, r1, c0, s0, es, z1, a2, c5, s3]
end Lk17
namespace Lk17
open PySem PySem.Spec L2 PD
open PyProof.Rows hiding St
/-! ### the gates that are kept -/
theorem nDs_shp (m : List Nat) : Shp 1 (.list (m.map nD)) := .list fun d hd => by
  obtain ⟨p, _, e⟩ := List.mem_map.mp hd
  subst e
  exact .int
theorem tD_shp (m : List Nat) : Shp 1 (.tuple (m.map nD)) := .tuple fun d hd => by
  obtain ⟨p, _, e⟩ := List.mem_map.mp hd
  subst e
  exact .int
def popE (o : Option (Option Ent)) (i : Nat) (s : S) : R D := match o with
  | some (some (.own ds)) => (match ds.getLast? with
    | some d => .ok d (s.put i (.own ds.dropLast))
    | none => .bad)
  | _ => .bad
@[simp] theorem fPopL_s (i : Nat) (s : S) : fPopL i s = popE s.ρ[i]? i s := rfl
theorem popE_last (l : List Nat) (x : Nat) (i : Nat) (s : S) : popE (some (some (.own ((l ++ [x]).map nD)))) i s = .ok (nD x) (s.put i (.own (l.map nD))) := by
  unfold popE
  dsimp only
  rw [List.map_append, List.map_cons, List.map_nil, List.getLast?_concat, List.dropLast_concat]
def ownI (o : Option (Option Ent)) (r : O) : O := match o with
  | some (some (.own _)) => r
  | _ => .bad
@[simp] theorem ownI_own (ds : List D) (r : O) : ownI (some (some (.own ds))) r = r := rfl
def extE (o : Option (Option Ent)) (i : Nat) (zs : List D) (s : S) : O := match o with
  | some (some (.own ds)) => if ds.length + zs.length ≤ sizeLine then .nx (s.put i (.own (ds ++ zs))) else .bad
  | _ => .bad
@[simp] theorem extE_own (ds : List D) (i : Nat) (zs : List D) (s : S) : extE (some (some (.own ds))) i zs s = if ds.length + zs.length ≤ sizeLine then .nx (s.put i (.own (ds ++ zs))) else .bad := rfl
@[simp] theorem sExt_s (i : Nat) (f : FA) (s : S) : sExt i f s = ownI s.ρ[i]? ((f s).stm fun zs s => extE s.ρ[i]? i zs s) := by
  have e : sExt i f s = if isOwn s i = true then ((f s).stm fun zs s => extE s.ρ[i]? i zs s) else .bad := rfl
  rw [e]
  unfold ownI isOwn
  generalize (f s).stm (fun zs s => extE s.ρ[i]? i zs s) = r
  rcases s.ρ[i]? with _ | _ | e
  · rfl
  · rfl
  · cases e <;> rfl
@[simp] theorem sWhile_s (n : Nat) (kl : List Nat) (c : FT) (body : FO) (s : S) : sWhile n kl c body s = whD kl c body n s := rfl
def kgB : FO := (sSeq (sAsg (fPopL 3) (gNm 4))
    (sIf (fAnd (tVal (fBin dGe (fSlot 4) (fSlot 1))) (tVal (fDin true 2 (fSlot 4)))) (sSeq (sSetD 2 (fC (.bool true)) (fSlot 4))
    (sExt 3 (fListF (fIx (fIx (fIxS 0 (fC (.int 1))) (fBin dSub (fSlot 4) (fSlot 1))) (fC (.int 0)))))) sNil))
def kgC : FT := tVal (fCmpS dNe 3 (fFz (fLim fNil)))
def sigAt (first : Nat) (gs : List Gate) (k : Nat) : List Nat := (gs.getD (k - first) ([], [])).1
def kgS (first : Nat) (gs : List Gate) (p : List Nat × List Nat) (x : Nat) : List Nat × List Nat := if first ≤ x ∧ x ∉ p.1 then (p.1 ++ [x], p.2 ++ sigAt first gs x) else p
section
variable {n : Nat} {gs : List Gate} {os : List Nat}
abbrev kgT (n : Nat) (gs : List Gate) (os : List Nat) (w : Wst) (p : List Nat × List Nat) : S := ⟨[some (.val (netD n gs os)), some (.val (nD (2 + n))), some (.dic (setE p.1)), some (.own (p.2.map nD)), none], w⟩
theorem kgB_ok (ks l : List Nat) (x : Nat) (hx : x < 2 + n + gs.length) (hks : ks.length ≤ 1000) (hl : l.length ≤ 1000) (hf : ∀ g ∈ gs, g.1.length ≤ 6) (w : Wst) :
    ∃ s2, kgB (kgT n gs os w (ks, l ++ [x])) = .nx s2 ∧ kill [4] s2 = kgT n gs os w (kgS (2 + n) gs (ks, l) x) := by
  have sl : (2000 : Nat) ≤ sizeLine := by decide
  have ep := popE_last l x 3 (kgT n gs os w (ks, l ++ [x]))
  have e1 := dGe_nn x (2 + n)
  have lk := lkD_set ks x
  have a1 : dIx (netD n gs os) (.int 1) = some (.tuple (gs.map gD)) := rfl
  have hs : (setE ks).length < sizeLine := by unfold setE; rw [List.length_map]; omega
  have ps := put_set ks x
  unfold kN at lk ps
  unfold kgS
  by_cases h1 : 2 + n ≤ x
  · rw [decide_eq_true h1] at e1
    by_cases h2 : x ∈ ks
    · refine ⟨⟨[some (.val (netD n gs os)), some (.val (nD (2 + n))), some (.dic (setE ks)), some (.own (l.map nD)), some (.val (nD x))], w⟩, ?_, ?_⟩
      · rw [decide_eq_true h2] at lk
        unfold kgB
        simp -implicitDefEqProofs only [sSeq_s, sAsg_gNm, fPopL_s]
        rw [show (kgT n gs os w (ks, l ++ [x])).ρ[3]? = some (some (.own ((l ++ [x]).map nD))) from rfl, ep]
        simp -implicitDefEqProofs [e1, lk]
      · rw [if_neg (by simp [h2])]
        rfl
    · have hg : x - (2 + n) < gs.length := by omega
      have es : dSub (nD x) (nD (2 + n)) = some (nD (x - (2 + n))) := dSub_nD h1
      have eg : atI (gs.map gD) ((x - (2 + n) : Nat) : Int) = some (gD gs[x - (2 + n)]) := by
        rw [atI_nn (by rw [List.length_map]; exact hg), List.getElem_map]
      have b0 : dIx (gD gs[x - (2 + n)]) (.int 0) = some (.tuple ((sigAt (2 + n) gs x).map nD)) := by
        unfold sigAt
        rw [List.getD_eq_getElem?_getD, List.getElem?_eq_getElem hg]
        rfl
      have hsl : (sigAt (2 + n) gs x).length ≤ 6 := by
        unfold sigAt
        rw [List.getD_eq_getElem?_getD, List.getElem?_eq_getElem hg]
        exact hf _ (List.getElem_mem hg)
      have ei : ins ks x = ks ++ [x] := if_neg h2
      rw [ei] at ps
      have hl2 : l.length + (sigAt (2 + n) gs x).length ≤ sizeLine := by omega
      refine ⟨⟨[some (.val (netD n gs os)), some (.val (nD (2 + n))), some (.dic (setE (ks ++ [x]))), some (.own ((l ++ sigAt (2 + n) gs x).map nD)), some (.val (nD x))], w⟩, ?_, ?_⟩
      · rw [decide_eq_false h2] at lk
        unfold kgB
        simp -implicitDefEqProofs only [sSeq_s, sAsg_gNm, fPopL_s]
        rw [show (kgT n gs os w (ks, l ++ [x])).ρ[3]? = some (some (.own ((l ++ [x]).map nD))) from rfl, ep]
        have nde : ∀ m : Nat, nD m = .int (m : Int) := fun _ => rfl
        have eg' : dIx (.tuple (gs.map gD)) (nD (x - (2 + n))) = some (gD gs[x - (2 + n)]) := eg
        generalize sigAt (2 + n) gs x = SG at *
        simp -implicitDefEqProofs [e1, lk, hs, ps, a1, es, eg', b0, hl2]
      · rw [if_pos ⟨h1, h2⟩]
        rfl
  · rw [decide_eq_false h1] at e1
    refine ⟨⟨[some (.val (netD n gs os)), some (.val (nD (2 + n))), some (.dic (setE ks)), some (.own (l.map nD)), some (.val (nD x))], w⟩, ?_, ?_⟩
    · unfold kgB
      simp -implicitDefEqProofs only [sSeq_s, sAsg_gNm, fPopL_s]
      rw [show (kgT n gs os w (ks, l ++ [x])).ρ[3]? = some (some (.own ((l ++ [x]).map nD))) from rfl, ep]
      simp -implicitDefEqProofs [e1]
    · rw [if_neg (by simp [h1])]
      rfl
theorem kgC_ok (ks l : List Nat) (w : Wst) : kgC (kgT n gs os w (ks, l)) = .ok (!l.isEmpty) (kgT n gs os w (ks, l)) := by
  have e := dNe_nil (nDs_shp l) (by decide)
  rw [show (l.map nD).isEmpty = l.isEmpty by cases l <;> rfl] at e
  have s0 : (0 : Nat) ≤ sizeLine := by decide
  unfold kgC
  simp -implicitDefEqProofs [s0, e]
/-- while gates are looked for -/
structure KI (n : Nat) (gs : List Gate) (os ks wt : List Nat) : Prop where
  nd : ks.Nodup
  rg : ∀ k ∈ ks, 2 + n ≤ k ∧ k < 2 + n + gs.length
  wr : ∀ x ∈ wt, x < 2 + n + gs.length
  out : ∀ x ∈ os, 2 + n ≤ x → x ∈ ks ∨ x ∈ wt
  cl : ∀ k ∈ ks, ∀ x ∈ sigAt (2 + n) gs k, 2 + n ≤ x → x ∈ ks ∨ x ∈ wt
  use : ∀ x, x ∈ ks ∨ x ∈ wt → 2 + n ≤ x → x ∈ os ∨ ∃ k ∈ ks, x ∈ sigAt (2 + n) gs k
theorem KI.len {ks wt : List Nat} (h : KI n gs os ks wt) : ks.length ≤ gs.length := by
  have := sub_len ks ((List.range gs.length).map fun i => 2 + n + i) h.nd fun x hx => by
    obtain ⟨h1, h2⟩ := h.rg x hx
    exact List.mem_map.mpr ⟨x - (2 + n), List.mem_range.mpr (by omega), by omega⟩
  simpa using this
theorem sig_lt (ok : NetOk n gs) {k x : Nat} (h1 : 2 + n ≤ k) (h2 : k < 2 + n + gs.length) (hx : x ∈ sigAt (2 + n) gs k) : x < k ∧ (gs.getD (k - (2 + n)) ([], [])).1.length ≤ 6 := by
  unfold sigAt at hx
  have hg : k - (2 + n) < gs.length := by omega
  rw [List.getD_eq_getElem?_getD, List.getElem?_eq_getElem hg] at hx ⊢
  have o := ok (k - (2 + n)) _ (List.getElem?_eq_getElem hg)
  have := o.sig x hx
  exact ⟨by omega, o.fan⟩
theorem KI.step (ok : NetOk n gs) {ks l : List Nat} {x : Nat} (h : KI n gs os ks (l ++ [x])) : KI n gs os (kgS (2 + n) gs (ks, l) x).1 (kgS (2 + n) gs (ks, l) x).2 := by
  have hxw := h.wr x (by simp)
  unfold kgS
  by_cases c : 2 + n ≤ x ∧ x ∉ ks
  · rw [if_pos c]
    refine ⟨?_, fun k hk => ?_, fun y hy => ?_, fun y hy h1 => ?_, fun k hk y hy h1 => ?_, fun y hy h1 => ?_⟩
    · show (ks ++ [x]).Nodup
      rw [List.nodup_append]
      exact ⟨h.nd, List.pairwise_singleton _ _, fun a ha b hb e => c.2 (by rw [List.mem_singleton.mp hb] at e; exact e ▸ ha)⟩
    · rcases List.mem_append.mp (show k ∈ ks ++ [x] from hk) with q | q
      · exact h.rg k q
      · rw [List.mem_singleton.mp q]; exact ⟨c.1, hxw⟩
    · rcases List.mem_append.mp (show y ∈ l ++ sigAt (2 + n) gs x from hy) with q | q
      · exact h.wr y (List.mem_append_left _ q)
      · have := (sig_lt ok c.1 hxw q).1; omega
    · rcases h.out y hy h1 with q | q
      · exact .inl (List.mem_append_left _ q)
      · rcases List.mem_append.mp q with q | q
        · exact .inr (List.mem_append_left _ q)
        · exact .inl (List.mem_append_right _ q)
    · rcases List.mem_append.mp (show k ∈ ks ++ [x] from hk) with q | q
      · rcases h.cl k q y hy h1 with q | q
        · exact .inl (List.mem_append_left _ q)
        · rcases List.mem_append.mp q with q | q
          · exact .inr (List.mem_append_left _ q)
          · exact .inl (List.mem_append_right _ q)
      · rw [List.mem_singleton.mp q] at hy
        exact .inr (List.mem_append_right _ hy)
    · have old : ∀ {y}, y ∈ ks ∨ y ∈ l ++ [x] → 2 + n ≤ y → y ∈ os ∨ ∃ k ∈ ks ++ [x], y ∈ sigAt (2 + n) gs k := fun hy h1 => (h.use _ hy h1).imp id fun ⟨k, hk, q⟩ => ⟨k, List.mem_append_left _ hk, q⟩
      rcases hy with hy | hy
      · rcases List.mem_append.mp (show y ∈ ks ++ [x] from hy) with q | q
        · exact old (.inl q) h1
        · exact old (.inr (List.mem_append_right _ q)) h1
      · rcases List.mem_append.mp (show y ∈ l ++ sigAt (2 + n) gs x from hy) with q | q
        · exact old (.inr (List.mem_append_left _ q)) h1
        · exact .inr ⟨x, by simp, q⟩
  · rw [if_neg c]
    have gone : ∀ y, 2 + n ≤ y → y ∈ l ++ [x] → y ∈ ks ∨ y ∈ l := fun y h1 hy => by
      rcases List.mem_append.mp hy with q | q
      · exact .inr q
      · rw [List.mem_singleton.mp q] at h1 ⊢
        by_cases hk : x ∈ ks
        · exact .inl hk
        · exact absurd ⟨h1, hk⟩ c
    exact ⟨h.nd, h.rg, fun y hy => h.wr y (List.mem_append_left _ hy), fun y hy h1 => (h.out y hy h1).elim .inl (gone y h1), fun k hk y hy h1 => (h.cl k hk y hy h1).elim .inl (gone y h1), fun y hy h1 => h.use y (hy.imp id fun q => List.mem_append_left _ q) h1⟩
theorem kg_loop (ok : NetOk n gs) (hgs : gs.length ≤ 60) (w : Wst) : ∀ (fuel : Nat) (ks wt : List Nat), KI n gs os ks wt → wt.length + 7 * (gs.length - ks.length) < fuel → wt.length + 7 * (gs.length - ks.length) ≤ 900 →
    ∃ ks', whD [4] kgC kgB fuel (kgT n gs os w (ks, wt)) = .nx (kgT n gs os w (ks', [])) ∧ KI n gs os ks' []
  | 0, ks, wt, _, hf, _ => by omega
  | fuel + 1, ks, wt, h, hf, hb => by
    rcases List.eq_nil_or_concat wt with e | ⟨l, x, e⟩
    · subst e
      refine ⟨ks, ?_, h⟩
      rw [whD, kgC_ok]
      rfl
    · rw [List.concat_eq_append] at e
      subst e
      have hk := h.len
      have hfan : ∀ g ∈ gs, g.1.length ≤ 6 := fun g hg => by
        obtain ⟨i, hi⟩ := List.mem_iff_getElem?.mp hg
        exact (ok i g hi).fan
      rw [List.length_append, List.length_singleton] at hf hb
      obtain ⟨s2, e1, e2⟩ := kgB_ok (os := os) ks l x (h.wr x (by simp)) (by omega) (by omega) hfan w
      have hstep := h.step ok
      have hm : (kgS (2 + n) gs (ks, l) x).2.length + 7 * (gs.length - (kgS (2 + n) gs (ks, l) x).1.length) < l.length + 1 + 7 * (gs.length - ks.length) := by
        have hk2 := hstep.len
        unfold kgS at hk2 ⊢
        by_cases c : 2 + n ≤ x ∧ x ∉ ks
        · rw [if_pos c] at hk2 ⊢
          have hx := h.wr x (by simp)
          have hsl : (sigAt (2 + n) gs x).length ≤ 6 := by
            unfold sigAt
            rw [List.getD_eq_getElem?_getD, List.getElem?_eq_getElem (show x - (2 + n) < gs.length by omega)]
            exact hfan _ (List.getElem_mem _)
          simp only [List.length_append, List.length_singleton] at hk2 ⊢
          omega
        · rw [if_neg c]
          dsimp only
          omega
      obtain ⟨ks', e3, h3⟩ := kg_loop ok hgs w fuel _ _ hstep (by omega) (by omega)
      refine ⟨ks', ?_, h3⟩
      rw [whD, kgC_ok]
      have hne : (!(l ++ [x]).isEmpty) = true := by simp
      rw [hne]
      show (match kgB (kgT n gs os w (ks, l ++ [x])) with
        | .nx s2 => whD [4] kgC kgB fuel (kill [4] s2)
        | .ct s2 => whD [4] kgC kgB fuel (kill [4] s2)
        | .bk s2 => .nx (kill [4] s2)
        | o => o) = _
      rw [e1]
      show whD [4] kgC kgB fuel (kill [4] s2) = _
      rw [e2]
      exact e3
theorem kept_gates_ok (ok : NetOk n gs) (ho : ∀ x ∈ os, x < 2 + n + gs.length) (hgs : gs.length ≤ 60) (hos : os.length ≤ 100) (w : Wst) : ∃ ks, sem_kept_gates [netD n gs os] w = .ret (.list (ks.map nD)) w ∧ ks.Pairwise (· < ·) ∧ KI n gs os ks [] := by
  obtain ⟨ks, e1, h1⟩ := kg_loop (os := os) ok hgs w wF [] os ⟨List.nodup_nil, (fun _ h => nomatch h), ho, fun x hx _ => .inr hx, (fun _ h => nomatch h), fun x hx _ => .inl (hx.resolve_left (by simp))⟩ (by unfold wF; simp; omega) (by simp; omega)
  have hk := h1.len
  obtain ⟨sg, e2, ha, hm, _⟩ := sdE_map (fun k : Nat => k) (fun _ => PyData.bool true) ks (by omega) (by rw [List.map_id']; exact h1.nd)
  rw [List.map_id'] at hm
  have e2' : sdE (dicD (setE ks)) = some (sg.map nD) := e2
  refine ⟨sg, ?_, ha, ⟨asc_nodup ha, fun k hk => h1.rg k ((hm k).mp hk), h1.wr, fun x hx h2 => (h1.out x hx h2).imp (hm x).mpr id, fun k hk x hx h2 => (h1.cl k ((hm k).mp hk) x hx h2).imp (hm x).mpr id, fun x hx h2 => (h1.use x (hx.imp (hm x).mp id) h2).imp id fun ⟨k, hk, q⟩ => ⟨k, (hm k).mpr hk, q⟩⟩⟩
  have key : f_kept_gates = sSeq (sMix [1, 2, 3] (fIts [.inl (fBin dAddX (fC (.int 2)) (fIxS 0 (fC (.int 0)))), .inr fDic0, .inr (fO (fListF (fIxS 0 (fC (.int 2)))))])) (sSeq (sWhile wF [4] kgC kgB) (sRet (fFz (fSortD 2)))) := rfl
  have a0 : dIx (netD n gs os) (.int 0) = some (nD n) := rfl
  have a2 : dIx (netD n gs os) (.int 2) = some (.tuple (os.map nD)) := rfl
  have ea : dAddX (.int 2) (nD n) = some (nD (2 + n)) := rfl
  have e0 : setE [] = [] := rfl
  simp only [sem_kept_gates, semOf, startS, key]
  unfold kgT at e1
  rw [e0] at e1
  generalize kgC = KC at *
  generalize kgB = KB at *
  simp -implicitDefEqProofs [a0, a2, ea, e1, e2']
end
end Lk17
namespace Lk17
open PySem PySem.Spec L2 PD
open PyProof.Rows hiding St
/-! ### a net without the gates that are not used -/
def keptM (first : Nat) (gs : List Gate) (ks : List Nat) : List (Nat × Gate) := ks.map fun k => (k, gs.getD (k - first) ([], []))
theorem keptM_keys (first : Nat) (gs : List Gate) (ks : List Nat) : keysOf (keptM first gs ks) = ks := by
  unfold keysOf keptM
  rw [List.map_map]
  exact List.map_id' ks
theorem mem_keptM {first : Nat} {gs : List Gate} {ks : List Nat} {p : Nat × Gate} (h : p ∈ keptM first gs ks) : p.1 ∈ ks ∧ p.2 = gs.getD (p.1 - first) ([], []) := by
  obtain ⟨k, hk, rfl⟩ := List.mem_map.mp h
  exact ⟨hk, rfl⟩
def newN (n : Nat) (M : List (Nat × Gate)) : List Gate := M.map fun p => newG (atF (2 + n) (keysOf M)) p.2
theorem GOk.gf {b : Nat} {g : Gate} (h : GOk b g) : GF g := ⟨h.fan, h.len, h.bit⟩
section
variable {n : Nat} {gs : List Gate} {os ks : List Nat}
theorem kept_cl (ok : NetOk n gs) (k : KI n gs os ks []) (ha : ks.Pairwise (· < ·)) : Cl (2 + n) (keptM (2 + n) gs ks) os := by
  have at_ : ∀ {q}, q ∈ ks → ∃ g, gs.getD (q - (2 + n)) ([], []) = g ∧ GOk q g ∧ sigAt (2 + n) gs q = g.1 := fun {q} hq => by
    obtain ⟨h1, h2⟩ := k.rg q hq
    have hg : q - (2 + n) < gs.length := by omega
    refine ⟨gs[q - (2 + n)], by rw [List.getD_eq_getElem?_getD, List.getElem?_eq_getElem hg]; rfl, ?_, by unfold sigAt; rw [List.getD_eq_getElem?_getD, List.getElem?_eq_getElem hg]; rfl⟩
    have := ok (q - (2 + n)) _ (List.getElem?_eq_getElem hg)
    rw [show 2 + n + (q - (2 + n)) = q by omega] at this
    exact this
  refine ⟨by rw [keptM_keys]; exact ha, fun q hq => by rw [keptM_keys] at hq; exact (k.rg q hq).1, fun p hp x hx => ?_, fun x hx h1 => by rw [keptM_keys]; exact (k.out x hx h1).resolve_right (by simp), fun p hp => ?_⟩
  · obtain ⟨q1, q2⟩ := mem_keptM hp
    obtain ⟨g, e1, og, e2⟩ := at_ q1
    rw [q2, e1] at hx
    rw [keptM_keys]
    exact ⟨og.sig x hx, fun h1 => (k.cl _ q1 x (by rw [e2]; exact hx) h1).resolve_right (by simp)⟩
  · obtain ⟨q1, q2⟩ := mem_keptM hp
    obtain ⟨g, e1, og, e2⟩ := at_ q1
    rw [q2, e1]
    exact og.gf
theorem without_unused_ok (ok : NetOk n gs) (ho : ∀ x ∈ os, x < 2 + n + gs.length) (hgs : gs.length ≤ 60) (hn : n ≤ 500) (hos : os.length ≤ 100) (w : Wst) : ∃ ks, ks.Pairwise (· < ·) ∧ KI n gs os ks [] ∧
    sem_without_unused [netD n gs os] w = .ret (netD n (newN n (keptM (2 + n) gs ks)) (os.map (atF (2 + n) ks))) w := by
  have sl : (2000 : Nat) ≤ sizeLine := by decide
  obtain ⟨ks, e1, ha, k⟩ := kept_gates_ok ok ho hgs hos w
  have cl := kept_cl ok k ha
  have hk := k.len
  have hkl : (keptM (2 + n) gs ks).length < 64 := by unfold keptM; rw [List.length_map]; omega
  have e2 := renumbered_ok (gs := gs) cl hkl hn (by omega) w
  rw [keptM_keys] at e2
  have a0 : dIx (netD n gs os) (.int 0) = some (nD n) := rfl
  have a1 : dIx (netD n gs os) (.int 1) = some (.tuple (gs.map gD)) := rfl
  have ea : dAddX (.int 2) (nD n) = some (nD (2 + n)) := rfl
  have c := dcmp_pure (vs := [2]) (tg := gNm 2) (fk := fSlot 2) (fv := fIx (fIxS 0 (fC (.int 1))) (fBin dSub (fSlot 2) (fSlot 1))) (fun q => gD (gs.getD (q - (2 + n)) ([], []))) ⟨[some (.val (netD n gs os)), some (.val (nD (2 + n))), none], w⟩ ks [] (fun q hq => by
    obtain ⟨h1, h2⟩ := k.rg q hq
    have hg : q - (2 + n) < gs.length := by omega
    have es : dSub (nD q) (nD (2 + n)) = some (nD (q - (2 + n))) := dSub_nD h1
    have eg : dIx (.tuple (gs.map gD)) (nD (q - (2 + n))) = some (gD (gs.getD (q - (2 + n)) ([], []))) := by
      have z : atI (gs.map gD) ((q - (2 + n) : Nat) : Int) = some (gD gs[q - (2 + n)]) := by
        rw [atI_nn (by rw [List.length_map]; exact hg), List.getElem_map]
      rw [List.getD_eq_getElem?_getD, List.getElem?_eq_getElem hg]
      exact z
    refine ⟨_, ⟨[some (.val (netD n gs os)), some (.val (nD (2 + n))), some (.val (nD q))], w⟩, ⟨[some (.val (netD n gs os)), some (.val (nD (2 + n))), some (.val (nD q))], w⟩, rfl, rfl, ?_, rfl⟩
    simp -implicitDefEqProofs [a1, es, eg]) (by rw [List.nil_append]; exact k.nd) (by simp; omega)
  rw [List.nil_append] at c
  have e0 : atE (fun q => gD (gs.getD (q - (2 + n)) ([], []))) [] = [] := rfl
  rw [e0] at c
  have e3 : atE (fun q => gD (gs.getD (q - (2 + n)) ([], []))) ks = dN (keptM (2 + n) gs ks) := by
    unfold atE dN keptM
    rw [List.map_map]
    rfl
  rw [e3] at c
  refine ⟨ks, ha, k, ?_⟩
  have hN : newN n (keptM (2 + n) gs ks) = (keptM (2 + n) gs ks).map fun p => newG (atF (2 + n) ks) p.2 := by unfold newN; rw [keptM_keys]
  rw [hN]
  have fz : ∀ (f : S → R Ent) (s : S), fFzN f s = (f s).bind fun e s => match e with
    | .own ds => .ok (.list ds) s
    | .dic es => .ok (dicD es) s
    | _ => .bad := fun _ _ => rfl
  simp only [sem_without_unused, semOf, startS, f_without_unused]
  generalize (fIx (fIxS 0 (fC (.int 1))) (fBin dSub (fSlot 2) (fSlot 1))) = FV at *
  generalize dN (keptM (2 + n) gs ks) = DM at *
  generalize netD n ((keptM (2 + n) gs ks).map fun p => newG (atF (2 + n) ks) p.2) (os.map (atF (2 + n) ks)) = ND at *
  simp -implicitDefEqProofs [a0, ea, e1, fz, c, e2]
end
/-! ### the net that is numbered anew -/
section
variable {n : Nat} {M : List (Nat × Gate)} {os : List Nat}
theorem newN_len : (newN n M).length = M.length := by unfold newN; rw [List.length_map]
theorem newN_at {i : Nat} {p : Nat × Gate} (h : M[i]? = some p) : (newN n M)[i]? = some (newG (atF (2 + n) (keysOf M)) p.2) := by
  unfold newN
  rw [List.getElem?_map, h]
  rfl
theorem key_at (cl : Cl (2 + n) M os) {i : Nat} {p : Nat × Gate} (h : M[i]? = some p) : atF (2 + n) (keysOf M) p.1 = 2 + n + i := by
  have hi := (List.getElem?_eq_some_iff.mp h).1
  have hpm := List.mem_of_getElem? h
  have hk : p.1 ∈ keysOf M := List.mem_map.mpr ⟨p, hpm, rfl⟩
  have hge := cl.ge _ hk
  have hkil : i < (keysOf M).length := by unfold keysOf; rw [List.length_map]; exact hi
  have hke : (keysOf M)[i] = p.1 := by
    have : (keysOf M)[i]? = some p.1 := by unfold keysOf; rw [List.getElem?_map, h]; rfl
    rw [List.getElem?_eq_getElem hkil] at this
    exact Option.some.inj this
  have hidx : (keysOf M).idxOf p.1 = i := by rw [← hke]; exact idx_take (asc_nodup cl.asc) hkil
  unfold atF
  rw [if_neg (by omega), hidx]
theorem key_ex {k : Nat} (h : k ∈ keysOf M) : ∃ (i : Nat) (p : Nat × Gate), M[i]? = some p ∧ p.1 = k := by
  obtain ⟨p, hp, e⟩ := List.mem_map.mp h
  obtain ⟨i, hi⟩ := List.mem_iff_getElem?.mp hp
  exact ⟨i, p, hi, e⟩
theorem key_lt (cl : Cl (2 + n) M os) {i j : Nat} {p q : Nat × Gate} (hp : M[i]? = some p) (hq : M[j]? = some q) (h : q.1 < p.1) : j < i := by
  have a1 : ∀ {i : Nat} {p : Nat × Gate}, M[i]? = some p → ∃ h : i < (keysOf M).length, (keysOf M)[i] = p.1 := fun {i p} h => by
    have hi := (List.getElem?_eq_some_iff.mp h).1
    have hkil : i < (keysOf M).length := by unfold keysOf; rw [List.length_map]; exact hi
    have : (keysOf M)[i]? = some p.1 := by unfold keysOf; rw [List.getElem?_map, h]; rfl
    rw [List.getElem?_eq_getElem hkil] at this
    exact ⟨hkil, Option.some.inj this⟩
  obtain ⟨h1, e1⟩ := a1 hp
  obtain ⟨h2, e2⟩ := a1 hq
  rcases Nat.lt_or_ge j i with q | q
  · exact q
  · exfalso
    rcases Nat.lt_or_ge i j with q2 | q2
    · have := List.pairwise_iff_getElem.mp cl.asc i j h1 h2 q2
      omega
    · have : i = j := by omega
      subst this
      omega
/-- an old signal's place -/
theorem at_lt (cl : Cl (2 + n) M os) {x i : Nat} {p : Nat × Gate} (hp : M[i]? = some p) (hx : x ∈ p.2.1) : atF (2 + n) (keysOf M) x < 2 + n + i := by
  obtain ⟨h1, h2⟩ := cl.sig p (List.mem_of_getElem? hp) x hx
  by_cases q : x < 2 + n
  · unfold atF
    rw [if_pos q]
    omega
  · obtain ⟨j, r, hr, e⟩ := key_ex (h2 (by omega))
    subst e
    rw [key_at cl hr]
    have := key_lt cl hp hr h1
    omega
theorem newN_ok (cl : Cl (2 + n) M os) : NetOk n (newN n M) := fun i g hg => by
  have hi : i < M.length := by have := (List.getElem?_eq_some_iff.mp hg).1; rwa [newN_len] at this
  have hp : M[i]? = some M[i] := List.getElem?_eq_getElem hi
  rw [newN_at hp] at hg
  cases hg
  have gf := cl.gf M[i] (List.getElem_mem hi)
  refine ⟨fun y hy => ?_, ?_, gf.bit, ?_⟩
  · obtain ⟨x, hx, rfl⟩ := List.mem_map.mp (show y ∈ M[i].2.1.map (atF (2 + n) (keysOf M)) from hy)
    exact at_lt cl hp hx
  · show M[i].2.2.length = 2 ^ (M[i].2.1.map _).length
    rw [List.length_map]
    exact gf.len
  · show (M[i].2.1.map _).length ≤ 6
    rw [List.length_map]
    exact gf.fan
theorem newN_out (cl : Cl (2 + n) M os) : ∀ x ∈ os.map (atF (2 + n) (keysOf M)), x < 2 + n + (newN n M).length := fun y hy => by
  obtain ⟨x, hx, rfl⟩ := List.mem_map.mp hy
  rw [newN_len]
  by_cases q : x < 2 + n
  · unfold atF
    rw [if_pos q]
    omega
  · obtain ⟨j, r, hr, e⟩ := key_ex (cl.out x hx (by omega))
    subst e
    rw [key_at cl hr]
    have := (List.getElem?_eq_some_iff.mp hr).1
    omega
theorem evalN_in {gs : List Gate} {bits : List Nat} (hb : bits.length = n) (ok : NetOk n gs) {k : Nat} (hk : k < 2 + n) : nth (evalN gs bits) k = nth (0 :: 1 :: bits) k := by
  refine (fold_at val val_congr gs (0 :: 1 :: bits) (fun j g' hj x hx => ?_)).1 k (by simp [hb]; omega)
  have := (ok j g' hj).sig x hx
  simp [hb]
  omega
/-- the values stay -/
theorem newN_val (cl : Cl (2 + n) M os) {bits : List Nat} (hb : bits.length = n) {ρ : Nat → Nat} (h0 : ∀ x, x < 2 + n → ρ x = nth (0 :: 1 :: bits) x) (hv : ∀ p ∈ M, ρ p.1 = gval ρ p.2) : ∀ x, (x < 2 + n ∨ x ∈ keysOf M) → nth (evalN (newN n M) bits) (atF (2 + n) (keysOf M) x) = ρ x := by
  have ok := newN_ok cl
  intro x
  induction x using Nat.strongRecOn with
  | _ x ih =>
    intro hx
    by_cases q : x < 2 + n
    · unfold atF
      rw [if_pos q, evalN_in hb ok q, h0 x q]
    · obtain ⟨i, p, hp, e⟩ := key_ex (hx.resolve_left q)
      subst e
      have hpm := List.mem_of_getElem? hp
      rw [key_at cl hp, val_at hb ok (newN_at hp), hv p hpm, ← gval_val]
      unfold gval newG
      dsimp only
      rw [List.map_map]
      congr 2
      refine List.map_congr_left fun y hy => ?_
      obtain ⟨h1, h2⟩ := cl.sig p hpm y hy
      exact ih y h1 (by
        by_cases q : y < 2 + n
        · exact .inl q
        · exact .inr (h2 (by omega)))
/-- it is no deeper -/
theorem newN_lev (cl : Cl (2 + n) M os) {lv : Nat → Nat} (hlv : ∀ p ∈ M, ∀ x ∈ p.2.1, lv x < lv p.1) (hpos : ∀ p ∈ M, 1 ≤ lv p.1) : ∀ x, (x < 2 + n ∨ x ∈ keysOf M) → nth (levN n (newN n M)) (atF (2 + n) (keysOf M) x) ≤ lv x := by
  have ok := newN_ok cl
  intro x
  induction x using Nat.strongRecOn with
  | _ x ih =>
    intro hx
    by_cases q : x < 2 + n
    · unfold atF
      rw [if_pos q, lev_in ok q]
      exact Nat.zero_le _
    · obtain ⟨i, p, hp, e⟩ := key_ex (hx.resolve_left q)
      subst e
      have hpm := List.mem_of_getElem? hp
      rw [key_at cl hp, lev_at ok (newN_at hp)]
      have h1 := hpos p hpm
      have : lvl (levN n (newN n M)) (newG (atF (2 + n) (keysOf M)) p.2).1 ≤ lv p.1 - 1 := by
        unfold lvl newG
        dsimp only
        refine fold_max_le _ _ _ (Nat.zero_le _) fun z hz => ?_
        rw [List.map_map] at hz
        obtain ⟨y, hy, rfl⟩ := List.mem_map.mp hz
        obtain ⟨h1, h2⟩ := cl.sig p hpm y hy
        have := ih y h1 (by
          by_cases q : y < 2 + n
          · exact .inl q
          · exact .inr (h2 (by omega)))
        have := hlv p hpm y hy
        show nth (levN n (newN n M)) (atF (2 + n) (keysOf M) y) ≤ _
        omega
      omega
end
end Lk17
namespace Lk17
open PySem PySem.Spec L2 PD
open PyProof.Rows hiding St
/-! ### gathering, gate by gate -/
def occ (M : List (Nat × Gate)) (x : Nat) : Nat := M.countP fun p => decide (x ∈ p.2.1)
theorem occ_app (A B : List (Nat × Gate)) (x : Nat) : occ (A ++ B) x = occ A x + occ B x := List.countP_append
theorem occ_cons (p : Nat × Gate) (B : List (Nat × Gate)) (x : Nat) : occ (p :: B) x = (if x ∈ p.2.1 then 1 else 0) + occ B x := by
  unfold occ
  rw [List.countP_cons]
  by_cases h : x ∈ p.2.1
  · simp [h]; omega
  · simp [h]
theorem occ_pos {A : List (Nat × Gate)} {x : Nat} {p : Nat × Gate} (hp : p ∈ A) (hx : x ∈ p.2.1) : 1 ≤ occ A x := by
  unfold occ
  exact List.countP_pos_iff.mpr ⟨p, hp, by simpa using hx⟩
theorem put_at : ∀ (A C : List (Nat × Gate)) (k : Nat) (t g : Gate), k ∉ keysOf A → k ∉ keysOf C → putKD (dN (A ++ (k, t) :: C)) (kN k) (gD g) = dN (A ++ (k, g) :: C) := fun A C k t g hA hC => by
  have id_ : ∀ (L : List (Nat × Gate)), k ∉ keysOf L → (dN L).map (fun p => if p.1 = kN k then (p.1, gD g) else p) = dN L := fun L hL => by
    unfold dN
    rw [List.map_map]
    refine List.map_congr_left fun p hp => ?_
    have : ¬ kN p.1 = kN k := fun e => hL (kN_inj e ▸ List.mem_map.mpr ⟨p, hp, rfl⟩)
    show (if kN p.1 = kN k then _ else _) = _
    rw [if_neg this]
  have split_ : ∀ t, dN (A ++ (k, t) :: C) = dN A ++ (kN k, gD t) :: dN C := fun t => by
    unfold dN
    rw [List.map_append, List.map_cons]
  rw [split_, split_]
  unfold putKD
  rw [if_pos (by rw [List.any_append, List.any_cons]; simp), List.map_append, List.map_cons, id_ A hA, id_ C hC]
  simp
theorem drop_at (A C : List (Nat × Gate)) (s : Nat) (t : Gate) (hA : s ∉ keysOf A) (hC : s ∉ keysOf C) : dropKD (dN (A ++ (s, t) :: C)) (kN s) = dN (A ++ C) := by
  have id_ : ∀ (L : List (Nat × Gate)), s ∉ keysOf L → (dN L).filter (fun p => decide (p.1 ≠ kN s)) = dN L := fun L hL => by
    refine List.filter_eq_self.mpr fun p hp => ?_
    obtain ⟨q, hq, rfl⟩ := List.mem_map.mp hp
    have : ¬ kN q.1 = kN s := fun e => hL (kN_inj e ▸ List.mem_map.mpr ⟨q, hq, rfl⟩)
    simpa using this
  have e : dN (A ++ (s, t) :: C) = dN A ++ (kN s, gD t) :: dN C := by
    unfold dN
    rw [List.map_append, List.map_cons]
  have e2 : dN (A ++ C) = dN A ++ dN C := by
    unfold dN
    rw [List.map_append]
  rw [e, e2]
  unfold dropKD
  rw [List.filter_append, List.filter_cons, id_ A hA, id_ C hC]
  simp
section
variable {n : Nat} {gs : List Gate} {os : List Nat} {fan : Nat}
structure GI (n : Nat) (gs : List Gate) (os : List Nat) (fan : Nat) (M : List (Nat × Gate)) : Prop where
  cl : Cl (2 + n) M os
  fn : ∀ p ∈ M, p.2.1.length ≤ fan
  lt : ∀ k ∈ keysOf M, k < 2 + n + gs.length
  val : ∀ bits : List Nat, bits.length = n → Bits bits → ∀ p ∈ M, nth (evalN gs bits) p.1 = gval (nth (evalN gs bits)) p.2
  lev : ∀ p ∈ M, ∀ x ∈ p.2.1, nth (levN n gs) x < nth (levN n gs) p.1
  pos : ∀ p ∈ M, 1 ≤ nth (levN n gs) p.1
  cnt : ∀ x, 1 < x → occ M x + os.count x ≤ nth (usesN n gs os) x
theorem split2 {M : List (Nat × Gate)} (ha : (keysOf M).Pairwise (· < ·)) {s k : Nat} {i t : Gate} (hs : (s, i) ∈ M) (hk : (k, t) ∈ M) (h : s < k) : ∃ A B C, M = A ++ (s, i) :: (B ++ (k, t) :: C) := by
  obtain ⟨A, R, rfl⟩ := List.append_of_mem hs
  have e : keysOf (A ++ (s, i) :: R) = keysOf A ++ s :: keysOf R := by unfold keysOf; rw [List.map_append, List.map_cons]
  rw [e, List.pairwise_append] at ha
  rcases List.mem_append.mp hk with q | q
  · have := ha.2.2 k (List.mem_map.mpr ⟨(k, t), q, rfl⟩) s List.mem_cons_self
    omega
  · rcases List.mem_cons.mp q with q | q
    · cases q
      omega
    · obtain ⟨B, C, rfl⟩ := List.append_of_mem q
      exact ⟨A, B, C, rfl⟩
theorem env_of {bits : List Nat} (hb : bits.length = n) (hbit : Bits bits) (ok : NetOk n gs) : Env (nth (evalN gs bits)) := by
  obtain ⟨hv, hl⟩ := ev_inv hb hbit ok
  refine ⟨?_, ?_, fun x => ?_⟩
  · rw [evalN_in hb ok (by omega)]
    rfl
  · rw [evalN_in hb ok (by omega)]
    rfl
  · rcases Nat.lt_or_ge x (evalN gs bits).length with q | q
    · exact hv _ (nth_mem q)
    · unfold nth
      rw [List.getD_eq_getElem?_getD, List.getElem?_eq_none q]
      decide
theorem GI.step {M : List (Nat × Gate)} (ok : NetOk n gs) (G : GI n gs os fan M) (hf6 : fan ≤ 6) {k s : Nat} {t inner g : Gate} (hk : (k, t) ∈ M) (got : Got t M (usesN n gs os) fan (2 + n) s inner g) :
    ∃ M', dropKD (putKD (dN M) (kN k) (gD g)) (kN s) = dN M' ∧ GI n gs os fan M' ∧ M'.length + 1 = M.length ∧ (∀ x ∈ keysOf M, k ≤ x → x ∈ keysOf M') ∧ (lkD (putKD (dN M) (kN k) (gD g)) (kN s)).isSome = true := by
  have hs := lkM_mem got.lk
  have hsk : s < k := (G.cl.sig _ hk s got.hs).1
  have nd := asc_nodup G.cl.asc
  obtain ⟨A, B, C, e⟩ := split2 G.cl.asc hs hk hsk
  have eK : keysOf M = keysOf A ++ s :: (keysOf B ++ k :: keysOf C) := by rw [e]; unfold keysOf; simp
  rw [eK] at nd
  have asc := G.cl.asc
  rw [eK] at asc
  have nk : k ∉ keysOf (A ++ (s, inner) :: B) ∧ k ∉ keysOf C ∧ s ∉ keysOf A ∧ s ∉ keysOf (B ++ (k, g) :: C) := by
    have eA : keysOf (A ++ (s, inner) :: B) = keysOf A ++ s :: keysOf B := by unfold keysOf; simp
    have eB : keysOf (B ++ (k, g) :: C) = keysOf B ++ k :: keysOf C := by unfold keysOf; simp
    rw [eA, eB]
    rw [List.nodup_append, List.nodup_cons, List.nodup_append, List.nodup_cons] at nd
    obtain ⟨_, ⟨n1, _, ⟨n2, _⟩, n3⟩, n4⟩ := nd
    refine ⟨fun h => ?_, n2, fun h => n4 s h s List.mem_cons_self rfl, n1⟩
    rcases List.mem_append.mp h with q | q
    · exact n4 k q k (List.mem_cons_of_mem _ (List.mem_append_right _ List.mem_cons_self)) rfl
    · rcases List.mem_cons.mp q with q | q
      · omega
      · exact n3 k q k List.mem_cons_self rfl
  have e1 : putKD (dN M) (kN k) (gD g) = dN (A ++ (s, inner) :: (B ++ (k, g) :: C)) := by
    have q := put_at (A ++ (s, inner) :: B) C k t g nk.1 nk.2.1
    rw [e]
    simpa using q
  have e2 : dropKD (putKD (dN M) (kN k) (gD g)) (kN s) = dN (A ++ (B ++ (k, g) :: C)) := by
    rw [e1]
    exact drop_at A (B ++ (k, g) :: C) s inner nk.2.2.1 nk.2.2.2
  have mem' : ∀ p, p ∈ A ++ (B ++ (k, g) :: C) → p = (k, g) ∨ (p ∈ M ∧ p.1 ≠ s ∧ p.1 ≠ k ∧ (p ∈ A ∨ p ∈ B ∨ p ∈ C)) := fun p hp => by
    have key : ∀ L : List (Nat × Gate), p ∈ L → s ∉ keysOf L → k ∉ keysOf L → p.1 ≠ s ∧ p.1 ≠ k := fun L h h1 h2 => ⟨fun z => h1 (z ▸ List.mem_map.mpr ⟨p, h, rfl⟩), fun z => h2 (z ▸ List.mem_map.mpr ⟨p, h, rfl⟩)⟩
    have sB : s ∉ keysOf B := fun h => nk.2.2.2 (by unfold keysOf at h ⊢; rw [List.map_append]; exact List.mem_append_left _ h)
    have sC : s ∉ keysOf C := fun h => nk.2.2.2 (by unfold keysOf at h ⊢; rw [List.map_append, List.map_cons]; exact List.mem_append_right _ (List.mem_cons_of_mem _ h))
    have kA : k ∉ keysOf A := fun h => nk.1 (by unfold keysOf at h ⊢; rw [List.map_append]; exact List.mem_append_left _ h)
    have kB : k ∉ keysOf B := fun h => nk.1 (by unfold keysOf at h ⊢; rw [List.map_append, List.map_cons]; exact List.mem_append_right _ (List.mem_cons_of_mem _ h))
    rcases List.mem_append.mp hp with q | q
    · exact .inr ⟨by rw [e]; simp [q], (key A q nk.2.2.1 kA).1, (key A q nk.2.2.1 kA).2, .inl q⟩
    · rcases List.mem_append.mp q with q | q
      · exact .inr ⟨by rw [e]; simp [q], (key B q sB kB).1, (key B q sB kB).2, .inr (.inl q)⟩
      · rcases List.mem_cons.mp q with q | q
        · exact .inl q
        · exact .inr ⟨by rw [e]; simp [q], (key C q sC nk.2.1).1, (key C q sC nk.2.1).2, .inr (.inr q)⟩
  have keys' : keysOf (A ++ (B ++ (k, g) :: C)) = keysOf A ++ (keysOf B ++ k :: keysOf C) := by unfold keysOf; simp
  have inK : ∀ x, x ∈ keysOf M → x ≠ s → x ∈ keysOf (A ++ (B ++ (k, g) :: C)) := fun x hx hne => by
    rw [keys']
    rw [eK] at hx
    rcases List.mem_append.mp hx with q | q
    · exact List.mem_append_left _ q
    · exact List.mem_append_right _ ((List.mem_cons.mp q).resolve_left hne)
  have ofK : ∀ x, x ∈ keysOf (A ++ (B ++ (k, g) :: C)) → x ∈ keysOf M := fun x hx => by
    rw [keys'] at hx
    rw [eK]
    rcases List.mem_append.mp hx with q | q
    · exact List.mem_append_left _ q
    · exact List.mem_append_right _ (List.mem_cons_of_mem _ q)
  have h1s : 1 < s := by have := got.ge; omega
  have cs := G.cnt s h1s
  rw [got.use] at cs
  have oc : ∀ x, occ M x = occ A x + ((if x ∈ inner.1 then 1 else 0) + (occ B x + ((if x ∈ t.1 then 1 else 0) + occ C x))) := fun x => by
    rw [e, occ_app, occ_cons, occ_app, occ_cons]
  have ocs := oc s
  rw [if_pos got.hs] at ocs
  have alone : ∀ p, (p ∈ A ∨ p ∈ B ∨ p ∈ C) → s ∉ p.2.1 := fun p hp hx => by
    rcases hp with q | q | q <;> have := occ_pos q hx <;> omega
  have cnt0 : os.count s = 0 := by omega
  have gm := got.rep.mem
  have hinner := G.cl.sig _ hs
  have ht := G.cl.sig _ hk
  have GFg : GF g := ⟨Nat.le_trans got.fan hf6, got.rep.len, got.rep.bit⟩
  refine ⟨A ++ (B ++ (k, g) :: C), e2, ⟨⟨?_, fun x hx => G.cl.ge x (ofK x hx), fun p hp x hx => ?_, fun x hx h1 => inK x (G.cl.out x hx h1) fun z => ?_, fun p hp => ?_⟩, fun p hp => ?_, fun x hx => G.lt x (ofK x hx), fun bits hb hbit p hp => ?_, fun p hp x hx => ?_, fun p hp => ?_, fun x hx => ?_⟩, ?_, fun x hx h => inK x hx (by omega), ?_⟩
  · rw [keys']
    rw [List.pairwise_append] at asc ⊢
    exact ⟨asc.1, (List.pairwise_cons.mp asc.2.1).2, fun a ha b hb => asc.2.2 a ha b (List.mem_cons_of_mem _ hb)⟩
  · rcases mem' p hp with rfl | ⟨q1, q2, q3, q4⟩
    · obtain ⟨hx1, _⟩ := (gm x).mp hx
      rcases hx1 with ⟨h1, h2⟩ | h1
      · exact ⟨(ht x h1).1, fun h => inK x ((ht x h1).2 h) h2⟩
      · have := (hinner x h1).1
        exact ⟨by show x < k; omega, fun h => inK x ((hinner x h1).2 h) (by omega)⟩
    · have := G.cl.sig p q1 x hx
      exact ⟨this.1, fun h => inK x (this.2 h) fun z => alone p q4 (z ▸ hx)⟩
  · rw [z] at hx
    have := List.count_pos_iff.mpr hx
    omega
  · rcases mem' p hp with rfl | ⟨q1, _⟩
    · exact GFg
    · exact G.cl.gf p q1
  · rcases mem' p hp with rfl | ⟨q1, _⟩
    · exact got.fan
    · exact G.fn p q1
  · rcases mem' p hp with rfl | ⟨q1, _⟩
    · have env := env_of hb hbit ok
      rw [got.rep.val _ env]
      unfold togF
      have e3 : (fun x => if x = s then gval (nth (evalN gs bits)) inner else nth (evalN gs bits) x) = nth (evalN gs bits) := by
        funext x
        by_cases h : x = s
        · rw [if_pos h, h]
          exact (G.val bits hb hbit _ hs).symm
        · rw [if_neg h]
      rw [e3]
      exact G.val bits hb hbit _ hk
    · exact G.val bits hb hbit p q1
  · rcases mem' p hp with rfl | ⟨q1, _⟩
    · obtain ⟨hx1, _⟩ := (gm x).mp hx
      rcases hx1 with ⟨h1, h2⟩ | h1
      · exact G.lev _ hk x h1
      · have a1 := G.lev _ hs x h1
        have a2 := G.lev _ hk s got.hs
        exact Nat.lt_trans a1 a2
    · exact G.lev p q1 x hx
  · rcases mem' p hp with rfl | ⟨q1, _⟩
    · have q : 1 ≤ nth (levN n gs) k := G.pos (k, t) hk
      exact q
    · exact G.pos p q1
  · have := G.cnt x hx
    have o' : occ (A ++ (B ++ (k, g) :: C)) x = occ A x + (occ B x + ((if x ∈ g.1 then 1 else 0) + occ C x)) := by rw [occ_app, occ_app, occ_cons]
    have le : (if x ∈ g.1 then 1 else 0) ≤ (if x ∈ inner.1 then 1 else 0) + (if x ∈ t.1 then 1 else 0 : Nat) := by
      by_cases h : x ∈ g.1
      · rw [if_pos h]
        obtain ⟨hx1, _⟩ := (gm x).mp h
        rcases hx1 with ⟨h1, _⟩ | h1
        · rw [if_pos h1]; omega
        · rw [if_pos h1]; omega
      · rw [if_neg h]; omega
    rw [o']
    rw [oc x] at this
    omega
  · rw [e]
    simp
    omega
  · rw [e1, lk_dN]
    have : lkM (A ++ (s, inner) :: (B ++ (k, g) :: C)) s = some inner := by
      refine lkM_of ?_ (by simp)
      have : keysOf (A ++ (s, inner) :: (B ++ (k, g) :: C)) = keysOf M := by rw [eK]; unfold keysOf; simp
      show (keysOf (A ++ (s, inner) :: (B ++ (k, g) :: C))).Nodup
      rw [this, eK]
      exact nd
    rw [this]
    rfl
end
end Lk17
namespace Lk17
open PySem PySem.Spec L2 PD
open PyProof.Rows hiding St
/-! ### the loops of gathered -/
def borTR (r : FR) (s : S) : R D := match r with
  | .ret d w => if tupD d = true then .ok d ⟨s.ρ, ⟨s.w.ns, w.k⟩⟩ else .bad
  | _ => .bad
def borTE (o : Option (List D)) (n : Nat) (sem : Sem') (s : S) : R D := match o with
  | none => .bad
  | some ds => if ds.length = n then borTR (sem ds s.w) s else .bad
@[simp] theorem fCallT_s (n : Nat) (sem : Sem') (f : FBs) (s : S) : fCallT n sem f s = borTE (f s) n sem s := rfl
@[simp] theorem borTE_some (ds : List D) (n : Nat) (sem : Sem') (s : S) : borTE (some ds) n sem s = if ds.length = n then borTR (sem ds s.w) s else .bad := rfl
@[simp] theorem borTR_ret (d : D) (w : Wst) (s : S) : borTR (.ret d w) s = if tupD d = true then .ok d ⟨s.ρ, ⟨s.w.ns, w.k⟩⟩ else .bad := rfl
def bixE (o : Option D) (k : D) : Option D := match o with
  | some (.dict es) => (kesD es).bind fun m => (kD k).bind fun k => lkD m k
  | _ => none
@[simp] theorem bIx_s (i : Nat) (f : FB) (s : S) : bIx i f s = (f s).bind fun k => bixE (lkE s.ρ[i]?) k := rfl
@[simp] theorem bixE_dicD (m : List (Key × D)) (k : D) : bixE (some (dicD m)) k = (kD k).bind (lkD m) := by
  unfold bixE dicD
  dsimp only
  rw [kesD_dic]
  rfl
def dpopE (o : Option (Option Ent)) (k : Option Key) (i : Nat) (s : S) : O := match o, k with
  | some (some (.dic es)), some k => if (lkD es k).isSome = true then .nx (s.put i (.dic (dropKD es k))) else .bad
  | _, _ => .bad
@[simp] theorem dpopE_dic (es : List (Key × D)) (k : Key) (i : Nat) (s : S) : dpopE (some (some (.dic es))) (some k) i s = if (lkD es k).isSome = true then .nx (s.put i (.dic (dropKD es k))) else .bad := rfl
@[simp] theorem sDPop_s (i : Nat) (f : FE) (s : S) : sDPop i f s = updI s.ρ[i]? ((f s).stm fun d s => dpopE s.ρ[i]? (kD d) i s) := by
  have e : sDPop i f s = if isDic s i = true then ((f s).stm fun d s => dpopE s.ρ[i]? (kD d) i s) else .bad := rfl
  rw [e]
  unfold updI isDic
  generalize (f s).stm (fun d s => dpopE s.ρ[i]? (kD d) i s) = r
  rcases s.ρ[i]? with _ | _ | e
  · rfl
  · rfl
  · cases e <;> rfl
theorem tupDs_nD : ∀ l : List Nat, tupDs (l.map nD) = true
  | [] => rfl
  | x :: l => by rw [List.map_cons, tupDs, tupDs_nD l]; rfl
theorem tupD_gD (g : Gate) : tupD (gD g) = true := by
  unfold gD
  rw [tupD, tupDs, tupDs, tupD, tupD, tupDs_nD, tupDs_nD]
  rfl
theorem tupD_got (s : Nat) (g : Gate) : tupD (.tuple [nD s, gD g]) = true := by
  rw [tupD, tupDs, tupDs, tupD_gD]
  rfl
def gwB : FO := (sSeq (sAsg (fCallT 5 sem_gathered_once (bAll1 (bIx 4 (bSlot 5)) (bAll1 (bSlot 4) (bAll1 (bSlot 3) (bAll1 (bSlot 1) (bAll1 (bSlot 2) bAll0)))))) (gNm 6))
    (sSeq (sIf (tVal (fBin dIsN (fSlot 6) (fC .none))) sBrk sNil)
    (sSeq (sSetD 4 (fIxS 6 (fC (.int 1))) (fSlot 5))
    (sDPop 4 (fIxS 6 (fC (.int 0)))))))
section
variable {n : Nat} {gs : List Gate} {os : List Nat} {fan : Nat}
abbrev gT (n : Nat) (gs : List Gate) (os : List Nat) (fan : Nat) (w : Wst) (e5 : Option Ent) (M : List (Nat × Gate)) : S := ⟨[some (.val (netD n gs os)), some (.val (nD fan)), some (.val (nD (2 + n))), some (.val (.list ((usesN n gs os).map nD))), some (.dic (dN M)), e5, none, none, none], w⟩
theorem gwB_ok {M : List (Nat × Gate)} (ok : NetOk n gs) (G : GI n gs os fan M) (hf6 : fan ≤ 6) (hM : M.length ≤ 1000) {k : Nat} {t : Gate} (hk : (k, t) ∈ M) (w : Wst) :
    (∃ s2, gwB (gT n gs os fan w (some (.val (nD k))) M) = .bk s2 ∧ kill [6] s2 = gT n gs os fan w (some (.val (nD k))) M) ∨
    ∃ M' s2, gwB (gT n gs os fan w (some (.val (nD k))) M) = .nx s2 ∧ kill [6] s2 = gT n gs os fan w (some (.val (nD k))) M' ∧ GI n gs os fan M' ∧ M'.length + 1 = M.length ∧ ∀ x ∈ keysOf M, k ≤ x → x ∈ keysOf M' := by
  have sl : (2000 : Nat) ≤ sizeLine := by decide
  have kk : k ∈ keysOf M := List.mem_map.mpr ⟨(k, t), hk, rfl⟩
  have lk := lk_dN M k
  rw [lkM_of (asc_nodup G.cl.asc) hk] at lk
  have lk : lkD (dN M) (.inl (k : Int)) = some (gD t) := lk
  have go := gathered_once_ok t M (usesN n gs os) fan (2 + n) (by omega) hf6 (G.cl.gf _ hk) G.cl.gf (fun s hs => by
    rw [usesN_len]
    have := (G.cl.sig _ hk s hs).1
    have := G.lt k kk
    omega) w
  have hz : (dN M).length < sizeLine := by unfold dN; rw [List.length_map]; omega
  rcases go with e | ⟨s, inner, g, got, e⟩
  · left
    refine ⟨⟨[some (.val (netD n gs os)), some (.val (nD fan)), some (.val (nD (2 + n))), some (.val (.list ((usesN n gs os).map nD))), some (.dic (dN M)), some (.val (nD k)), some (.val .none), none, none], w⟩, ?_, rfl⟩
    have n1 : dIsN PyData.none PyData.none = some (.bool true) := rfl
    have t1 : tupD PyData.none = true := rfl
    unfold gwB
    simp -implicitDefEqProofs [lk, e, n1, t1]
  · right
    obtain ⟨M', e1, G', hl, hkeep, hpop⟩ := G.step ok hf6 hk got
    refine ⟨M', ⟨[some (.val (netD n gs os)), some (.val (nD fan)), some (.val (nD (2 + n))), some (.val (.list ((usesN n gs os).map nD))), some (.dic (dN M')), some (.val (nD k)), some (.val (.tuple [nD s, gD g])), none, none], w⟩, ?_, rfl, G', hl, hkeep⟩
    have n1 : dIsN (PyData.tuple [nD s, gD g]) PyData.none = some (.bool false) := rfl
    have t1 := tupD_got s g
    have b0 : atI [nD s, gD g] 0 = some (nD s) := rfl
    have b1 : atI [nD s, gD g] 1 = some (gD g) := rfl
    unfold kN at e1 hpop
    unfold gwB
    generalize dN M' = DM at *
    generalize hDD : putKD (dN M) (.inl (k : Int)) (gD g) = DD at *
    simp -implicitDefEqProofs [lk, e, n1, t1, b0, b1, hz, hDD, hpop, e1]
theorem gw_loop (ok : NetOk n gs) (hf6 : fan ≤ 6) (k : Nat) (w : Wst) : ∀ (fuel : Nat) (M : List (Nat × Gate)), GI n gs os fan M → k ∈ keysOf M → M.length < fuel → M.length ≤ 1000 →
    ∃ M', whD [6] (tVal (fC (.bool true))) gwB fuel (gT n gs os fan w (some (.val (nD k))) M) = .nx (gT n gs os fan w (some (.val (nD k))) M') ∧ GI n gs os fan M' ∧ M'.length ≤ M.length ∧ ∀ x ∈ keysOf M, k ≤ x → x ∈ keysOf M'
  | 0, M, _, _, h, _ => by omega
  | fuel + 1, M, G, hk, hf, hM => by
    obtain ⟨p, hp, e⟩ := List.mem_map.mp hk
    have hp' : (k, p.2) ∈ M := by rw [← e]; exact hp
    have st : ∀ s : S, whD [6] (tVal (fC (.bool true))) gwB (fuel + 1) s = (match gwB s with
      | .nx s2 => whD [6] (tVal (fC (.bool true))) gwB fuel (kill [6] s2)
      | .ct s2 => whD [6] (tVal (fC (.bool true))) gwB fuel (kill [6] s2)
      | .bk s2 => .nx (kill [6] s2)
      | o => o) := fun s => rfl
    rw [st]
    rcases gwB_ok ok G hf6 hM hp' w with ⟨s2, e1, e2⟩ | ⟨M', s2, e1, e2, G', hl, hkeep⟩
    · refine ⟨M, ?_, G, Nat.le_refl _, fun x hx _ => hx⟩
      rw [e1]
      show O.nx (kill [6] s2) = _
      rw [e2]
    · obtain ⟨M2, e3, G2, hl2, hk2⟩ := gw_loop ok hf6 k w fuel M' G' (hkeep k hk (Nat.le_refl _)) (by omega) (by omega)
      refine ⟨M2, ?_, G2, by omega, fun x hx h => hk2 x (hkeep x hx h) h⟩
      rw [e1]
      show whD [6] (tVal (fC (.bool true))) gwB fuel (kill [6] s2) = _
      rw [e2]
      exact e3
theorem gf_loop (ok : NetOk n gs) (hf6 : fan ≤ 6) (M0 : List (Nat × Gate)) (G0 : GI n gs os fan M0) (hM : M0.length ≤ 1000) (w : Wst) :
    ∃ M, forD [5, 6] (gNm 5) (sWhile wF [6] (tVal (fC (.bool true))) gwB) ((keysOf M0).map nD) (gT n gs os fan w none M0) = .nx (gT n gs os fan w none M) ∧ GI n gs os fan M ∧ M.length ≤ M0.length := by
  obtain ⟨M, e, G, _, hl⟩ := forD_ex (kl := [5, 6]) (tg := gNm 5) (body := sWhile wF [6] (tVal (fC (.bool true))) gwB) (fun M => gT n gs os fan w none M) (fun i M => GI n gs os fan M ∧ (∀ x ∈ (keysOf M0).drop i, x ∈ keysOf M) ∧ M.length ≤ M0.length) ((keysOf M0).map nD) 0 (fun i M d hd ⟨G, hk, hl⟩ => by
    rw [Nat.zero_add] at hk ⊢
    rw [List.getElem?_map] at hd
    cases hx : (keysOf M0)[i]? with
    | none => rw [hx] at hd; cases hd
    | some k =>
      rw [hx] at hd
      cases hd
      have hi := (List.getElem?_eq_some_iff.mp hx).1
      have hke := (List.getElem?_eq_some_iff.mp hx).2
      have ed := List.drop_eq_getElem_cons hi
      have kM : k ∈ keysOf M := hk k (by rw [ed, hke]; exact List.mem_cons_self)
      obtain ⟨M', e1, G', hl', hkeep⟩ := gw_loop ok hf6 k w wF M G kM (by unfold wF; omega) (by omega)
      refine ⟨M', _, gT n gs os fan w (some (.val (nD k))) M', ⟨G', fun x hx2 => hkeep x (hk x ?_) ?_, by omega⟩, rfl, .inl e1, rfl⟩
      · rw [ed]
        exact List.mem_cons_of_mem _ hx2
      · have asc := G0.cl.asc
        rw [← List.take_append_drop i (keysOf M0), ed, List.pairwise_append] at asc
        have := (List.pairwise_cons.mp asc.2.1).1 x hx2
        omega) M0 ⟨G0, (fun x hx => by rw [List.drop_zero] at hx; exact hx), Nat.le_refl _⟩
  exact ⟨M, e, G, hl⟩
end
end Lk17
namespace Lk17
open PySem PySem.Spec L2 PD
open PyProof.Rows hiding St
/-! ### plain gates; gathered -/
inductive PL : Nat → List Gate → List (Nat × Gate) → Prop
  | nil {b : Nat} : PL b [] []
  | cons {b : Nat} {g g' : Gate} {l : List Gate} {L : List (Nat × Gate)} : Rep g' (fun x => x ∈ g.1) (fun ρ => gval ρ g) → g'.1.length ≤ g.1.length → PL (b + 1) l L → PL b (g :: l) ((b, g') :: L)
theorem PL.len {b : Nat} {l : List Gate} {L : List (Nat × Gate)} (h : PL b l L) : L.length = l.length := by
  induction h with
  | nil => rfl
  | cons _ _ _ ih => simp [ih]
theorem PL.keys {b : Nat} {l : List Gate} {L : List (Nat × Gate)} (h : PL b l L) : (keysOf L).Pairwise (· < ·) ∧ ∀ k, k ∈ keysOf L ↔ b ≤ k ∧ k < b + l.length := by
  induction h with
  | nil => exact ⟨.nil, fun k => by simp [keysOf]⟩
  | @cons b g g' l L _ _ _ ih =>
    have e : keysOf ((b, g') :: L) = b :: keysOf L := rfl
    rw [e]
    refine ⟨List.pairwise_cons.mpr ⟨fun k hk => ?_, ih.1⟩, fun k => ?_⟩
    · have := (ih.2 k).mp hk
      omega
    · rw [List.mem_cons, ih.2, List.length_cons]
      omega
theorem PL.mem {b : Nat} {l : List Gate} {L : List (Nat × Gate)} (h : PL b l L) : ∀ p ∈ L, ∃ (i : Nat) (g : Gate), l[i]? = some g ∧ p.1 = b + i ∧ Rep p.2 (fun x => x ∈ g.1) (fun ρ => gval ρ g) ∧ p.2.1.length ≤ g.1.length := by
  induction h with
  | nil => exact fun p hp => nomatch hp
  | @cons b g g' l L h1 h2 _ ih =>
    intro p hp
    rcases List.mem_cons.mp hp with e | hp
    · subst e
      exact ⟨0, g, rfl, rfl, h1, h2⟩
    · obtain ⟨i, g2, e1, e2, e3⟩ := ih p hp
      exact ⟨i + 1, g2, e1, by omega, e3⟩
theorem PL.occ {b : Nat} {l : List Gate} {L : List (Nat × Gate)} (h : PL b l L) (x : Nat) : occ L x ≤ (l.flatMap (·.1)).count x := by
  induction h with
  | nil => exact Nat.le_refl _
  | @cons b g g' l L h1 _ _ ih =>
    rw [occ_cons, List.flatMap_cons, List.count_append]
    by_cases hx : x ∈ g'.1
    · have := List.count_pos_iff.mpr ((h1.mem x).mp hx).1
      rw [if_pos hx]
      omega
    · rw [if_neg hx]
      omega
section
variable {n : Nat} {gs : List Gate} {os : List Nat} {fan : Nat}
theorem PL.gi (ok : NetOk n gs) (ho : ∀ x ∈ os, x < 2 + n + gs.length) {L : List (Nat × Gate)} (h : PL (2 + n) gs L) (h3 : ∀ g ∈ gs, g.1.length ≤ fan) : GI n gs os fan L := by
  obtain ⟨ka, km⟩ := h.keys
  have at_ : ∀ p ∈ L, ∃ (i : Nat) (g : Gate), gs[i]? = some g ∧ p.1 = 2 + n + i ∧ Rep p.2 (fun x => x ∈ g.1) (fun ρ => gval ρ g) ∧ p.2.1.length ≤ g.1.length := h.mem
  refine ⟨⟨ka, fun k hk => ((km k).mp hk).1, fun p hp x hx => ?_, fun x hx h1 => (km x).mpr ⟨h1, ho x hx⟩, fun p hp => ?_⟩, fun p hp => ?_, fun k hk => ((km k).mp hk).2, fun bits hb hbit p hp => ?_, fun p hp x hx => ?_, fun p hp => ?_, fun x hx => ?_⟩
  · obtain ⟨i, g, e1, e2, r, _⟩ := at_ p hp
    have hi := (List.getElem?_eq_some_iff.mp e1).1
    have := (ok i g e1).sig x ((r.mem x).mp hx).1
    exact ⟨by omega, fun h1 => (km x).mpr ⟨h1, by omega⟩⟩
  · obtain ⟨i, g, e1, e2, r, hl⟩ := at_ p hp
    have := (ok i g e1).fan
    exact ⟨by omega, r.len, r.bit⟩
  · obtain ⟨i, g, e1, e2, r, hl⟩ := at_ p hp
    have := h3 g (List.mem_of_getElem? e1)
    omega
  · obtain ⟨i, g, e1, e2, r, _⟩ := at_ p hp
    rw [r.val _ (env_of hb hbit ok), e2, val_at hb ok e1, gval_val]
  · obtain ⟨i, g, e1, e2, r, _⟩ := at_ p hp
    rw [e2, lev_at ok e1]
    have := le_lvl (ls := levN n gs) ((r.mem x).mp hx).1
    omega
  · obtain ⟨i, g, e1, e2, r, _⟩ := at_ p hp
    rw [e2, lev_at ok e1]
    omega
  · rw [usesN_at ok ho]
    have := h.occ x
    omega
def pgT : FG := (gTp 2 (gCo (gNm 7) (gCo (gNm 8) gNo)))
def pgK : FE := (fBin dAddX (fSlot 2) (fSlot 7))
def pgV : FE := (fCall 1 sem_plain_gate (fCons (fSlot 8) fNil))
theorem dcmp_plain (e0 e1 e3 : Option Ent) (w : Wst) : ∀ (l : List Gate) (i : Nat) (acc : List (Nat × Gate)), (∀ p ∈ acc, p.1 < 2 + n + i) → (∀ (j : Nat) (g : Gate), l[j]? = some g → GF g) → acc.length + l.length ≤ 1000 →
    ∃ L, PL (2 + n + i) l L ∧ dcmpD [7, 8] pgT fYes pgK pgV ((l.zipIdx i).map fun p => .tuple [nD p.2, gD p.1]) (dN acc) ⟨[e0, e1, some (.val (nD (2 + n))), e3, none, none, none, none, none], w⟩ = .ok (dN (acc ++ L)) ⟨[e0, e1, some (.val (nD (2 + n))), e3, none, none, none, none, none], w⟩
  | [], i, acc, _, _, _ => ⟨[], .nil, by rw [List.append_nil]; rfl⟩
  | g :: l, i, acc, ha, hg, hl => by
    have sl : (2000 : Nat) ≤ sizeLine := by decide
    have gf := hg 0 g rfl
    obtain ⟨g', e4, r, hle⟩ := plain_gate_ok g gf.fan gf.len gf.bit w
    obtain ⟨L, pl, e5⟩ := dcmp_plain e0 e1 e3 w l (i + 1) (acc ++ [(2 + n + i, g')]) (fun p hp => by
      rcases List.mem_append.mp hp with q | q
      · have := ha p q; omega
      · rw [List.mem_singleton.mp q]; show 2 + n + i < _; omega) (fun j g2 hj => hg (j + 1) g2 hj) (by simp at hl ⊢; omega)
    refine ⟨(2 + n + i, g') :: L, .cons r hle (by rw [show 2 + n + i + 1 = 2 + n + (i + 1) by omega]; exact pl), ?_⟩
    have ep : putKD (dN acc) (.inl ((2 + n + i : Nat) : Int)) (gD g') = dN (acc ++ [(2 + n + i, g')]) := by
      rw [put_new]
      · unfold dN
        rw [List.map_append]
        rfl
      · intro p hp e
        obtain ⟨q, hq, rfl⟩ := List.mem_map.mp hp
        have : q.1 = 2 + n + i := kN_inj e
        have := ha q hq
        omega
    have eL : acc ++ (2 + n + i, g') :: L = (acc ++ [(2 + n + i, g')]) ++ L := by simp
    rw [eL, ← e5, List.zipIdx_cons, List.map_cons, dcmpD]
    have ea : dAddX (nD (2 + n)) (nD i) = some (nD (2 + n + i)) := rfl
    have tg : pgT (.tuple [nD i, gD g]) ⟨[e0, e1, some (.val (nD (2 + n))), e3, none, none, none, none, none], w⟩ = some ⟨[e0, e1, some (.val (nD (2 + n))), e3, none, none, none, some (.val (nD i)), some (.val (gD g))], w⟩ := rfl
    have hz : (dN acc).length < sizeLine := by unfold dN; rw [List.length_map]; simp at hl; omega
    have ek : pgK ⟨[e0, e1, some (.val (nD (2 + n))), e3, none, none, none, some (.val (nD i)), some (.val (gD g))], w⟩ = .ok (nD (2 + n + i)) ⟨[e0, e1, some (.val (nD (2 + n))), e3, none, none, none, some (.val (nD i)), some (.val (gD g))], w⟩ := by
      unfold pgK
      simp -implicitDefEqProofs [ea]
    have ev : pgV ⟨[e0, e1, some (.val (nD (2 + n))), e3, none, none, none, some (.val (nD i)), some (.val (gD g))], w⟩ = .ok (gD g') ⟨[e0, e1, some (.val (nD (2 + n))), e3, none, none, none, some (.val (nD i)), some (.val (gD g))], w⟩ := by
      unfold pgV
      simp -implicitDefEqProofs [e4]
    simp only [tg]
    simp only [fYes_s, R.nox_ok, R.bind_ok, if_true, ek, ev, kD_nD, R.of_some]
    rw [if_pos hz, ep]
    rfl
theorem gathered_ok (ok : NetOk n gs) (ho : ∀ x ∈ os, x < 2 + n + gs.length) (hgs : gs.length ≤ 60) (hn : n ≤ 500) (hos : os.length ≤ 100) (h3 : ∀ g ∈ gs, g.1.length ≤ fan) (hf6 : fan ≤ 6) (w : Wst) :
    ∃ M ks, GI n gs os fan M ∧ M.length ≤ gs.length ∧ ks.Pairwise (· < ·) ∧ KI n (newN n M) (os.map (atF (2 + n) (keysOf M))) ks [] ∧
      sem_gathered [netD n gs os, nD fan] w = .ret (netD n (newN n (keptM (2 + n) (newN n M) ks)) ((os.map (atF (2 + n) (keysOf M))).map (atF (2 + n) ks))) w := by
  have s2 : (2 : Nat) ≤ sizeLine := by decide
  obtain ⟨M0, pl, c⟩ := dcmp_plain (n := n) (some (.val (netD n gs os))) (some (.val (nD fan))) (some (.val (.list ((usesN n gs os).map nD)))) w gs 0 [] (fun _ h => nomatch h) (fun j g hj => (ok j g hj).gf) (by simp; omega)
  rw [Nat.add_zero] at pl
  rw [List.nil_append] at c
  have hl0 := pl.len
  have G0 := pl.gi ok ho h3
  obtain ⟨M, e, G, hl⟩ := gf_loop ok hf6 M0 G0 (by omega) w
  have e1 := uses_of_ok ok ho (by omega) w
  have es := sortD_gates (M := M0) (by omega) G0.cl.asc
  have e2 := renumbered_ok (gs := gs) G.cl (by omega) hn (by omega) w
  have ok1 := newN_ok G.cl
  obtain ⟨ks, ha, k, e3⟩ := without_unused_ok ok1 (newN_out G.cl) (by rw [newN_len]; omega) hn (by rw [List.length_map]; exact hos) w
  refine ⟨M, ks, G, by omega, ha, k, ?_⟩
  have a0 : dIx (netD n gs os) (.int 0) = some (nD n) := rfl
  have a1 : dIx (netD n gs os) (.int 1) = some (.tuple (gs.map gD)) := rfl
  have ea : dAddX (.int 2) (nD n) = some (nD (2 + n)) := rfl
  have ee : enumFrom 0 (gs.map gD) = (gs.zipIdx 0).map fun p => .tuple [nD p.2, gD p.1] := enumFrom_any gD gs 0
  have d0 : dN [] = [] := rfl
  rw [d0] at c
  have key : f_gathered = sSeq (sAsg (fTup (fCons (fBin dAddX (fC (.int 2)) (fIxS 0 (fC (.int 0)))) (fCons (fCall 1 sem_uses_of (fCons (fSlot 0) fNil)) fNil))) (gTp 2 (gCo (gNm 2) (gCo (gNm 3) gNo)))) (sSeq (sSetN 4 (fDComp [7, 8] (fEnum (fIxS 0 (fC (.int 1)))) pgT fYes pgK pgV))
    (sSeq (sFor [5, 6] (fIt (fFz (fSortD 4))) (gNm 5) (sWhile wF [6] (tVal (fC (.bool true))) gwB)) (sRet (fCall 1 sem_without_unused (fCons (fCall 2 sem_renumbered (fCons (fSlot 0) (fCons (fSlot 4) fNil))) fNil))))) := rfl
  have eN : newN n M = M.map fun p => newG (atF (2 + n) (keysOf M)) p.2 := rfl
  rw [← eN] at e2
  unfold gT at e
  simp only [sem_gathered, semOf, startS, key]
  generalize (sWhile wF [6] (tVal (fC (.bool true))) gwB) = WB at *
  generalize pgT = PT at *
  generalize pgK = PK at *
  generalize pgV = PV at *
  generalize netD n (newN n (keptM (2 + n) (newN n M) ks)) ((os.map (atF (2 + n) (keysOf M))).map (atF (2 + n) ks)) = N2 at *
  generalize netD n (newN n M) (os.map (atF (2 + n) (keysOf M))) = N1 at *
  generalize dN M0 = D0 at *
  generalize dN M = DM at *
  simp -implicitDefEqProofs [a0, a1, e1, ea, s2, ee, c, es, e, e2, e3]
end
end Lk17
namespace Lk17
open PySem PySem.Spec L2 PD Cho
open PyProof.Rows hiding St
/-! ### nets of functions -/
/-- the gates of a chooser of m bits -/
structure PIn (m : Nat) (ks : List T3) : Prop where
  rg : ∀ (i : Nat) (t : T3), ks[i]? = some t → (0 ≤ t.1 ∧ t.1 < 2 + (m : Int) + (i : Int)) ∧ (0 ≤ t.2.1 ∧ t.2.1 < 2 + (m : Int) + (i : Int)) ∧ (0 ≤ t.2.2 ∧ t.2.2 < 2 + (m : Int) + (i : Int))
  nd : ks.Nodup
  sm : ∀ t ∈ ks, t.1 = 1 + (m : Int) → t = (1 + (m : Int), 0, 1) ∨ t = (1 + (m : Int), 1, 0)
def big (m : Nat) (ks : List T3) : Nat := ks.countP fun t => decide (t.1 ≠ 1 + (m : Int))
theorem lk3_some {t : T3} : ∀ {ks : List T3} {b v : Int}, lk3 b ks t = some v → b ≤ v ∧ v < b + (ks.length : Int)
  | [], b, v, h => by cases h
  | s :: r, b, v, h => by
    unfold lk3 at h
    rw [List.length_cons]
    by_cases e : s = t
    · rw [if_pos e] at h
      cases h
      omega
    · rw [if_neg e] at h
      have := lk3_some h
      omega
theorem lk3_none {t : T3} : ∀ {ks : List T3} {b : Int}, lk3 b ks t = none → t ∉ ks
  | [], b, _ => by simp
  | s :: r, b, h => by
    unfold lk3 at h
    by_cases e : s = t
    · rw [if_pos e] at h; cases h
    · rw [if_neg e] at h
      exact fun hm => (List.mem_cons.mp hm).elim (fun z => e z.symm) (lk3_none h)
theorem put3_ok (m : Nat) : ∀ (n : Nat) (ws : List Int) (ks : List T3), n ≤ m → ws.length = 2 ^ n → (∀ x ∈ ws, x = 0 ∨ x = 1) → PIn m ks →
    PIn m (put3 (m : Int) n ws ks).2 ∧ (0 ≤ (put3 (m : Int) n ws ks).1 ∧ (put3 (m : Int) n ws ks).1 < 2 + (m : Int) + ((put3 (m : Int) n ws ks).2.length : Int)) ∧ big m (put3 (m : Int) n ws ks).2 ≤ big m ks + (2 ^ (n - 1) - 1) ∧ (n = 0 → (put3 (m : Int) n ws ks).1 = 0 ∨ (put3 (m : Int) n ws ks).1 = 1)
  | 0, ws, ks, _, hl, hw, h => by
    match ws, hl, hw with
    | [x], _, hw =>
      have hx := hw x List.mem_cons_self
      rw [put3]
      refine ⟨h, ?_, by simp, fun _ => hx⟩
      show 0 ≤ x ∧ x < _
      rcases hx with e | e <;> subst e <;> constructor <;> omega
  | n + 1, ws, ks, hn, hl, hw, h => by
    have e2 : 2 ^ (n + 1) = 2 ^ n + 2 ^ n := by rw [Nat.pow_succ]; omega
    obtain ⟨p1, p2, p3, p4⟩ := put3_ok m n (ws.take (2 ^ n)) ks (by omega) (by rw [List.length_take]; omega) (fun x hx => hw x (List.mem_of_mem_take hx)) h
    obtain ⟨q1, q2, q3, q4⟩ := put3_ok m n (ws.drop (2 ^ n)) (put3 (m : Int) n (ws.take (2 ^ n)) ks).2 (by omega) (by rw [List.length_drop]; omega) (fun x hx => hw x (List.mem_of_mem_drop hx)) p1
    have pm := put3_mono (m : Int) n (ws.drop (2 ^ n)) (put3 (m : Int) n (ws.take (2 ^ n)) ks).2
    have ep : put3 (m : Int) (n + 1) ws ks = put3 (m : Int) (n + 1) ws ks := rfl
    conv at ep => rhs; rw [put3]
    generalize put3 (m : Int) n (ws.drop (2 ^ n)) (put3 (m : Int) n (ws.take (2 ^ n)) ks).2 = hi at *
    generalize put3 (m : Int) n (ws.take (2 ^ n)) ks = lo at *
    have hb : big m hi.2 ≤ big m ks + (2 ^ n - 1 + (if n = 0 then 0 else 0)) := by
      cases n with
      | zero => simp at p3 q3 ⊢; omega
      | succ n =>
        have e3 : 2 ^ (n + 1) = 2 ^ n + 2 ^ n := by rw [Nat.pow_succ]; omega
        have hp : 0 < 2 ^ n := Nat.pow_pos (by decide)
        simp only [Nat.add_sub_cancel] at p3 q3
        rw [if_neg (by omega)]
        omega
    have hb2 : 1 ≤ n → big m hi.2 + 1 ≤ big m ks + (2 ^ n - 1) := fun h1 => by
      cases n with
      | zero => omega
      | succ n =>
        have e3 : 2 ^ (n + 1) = 2 ^ n + 2 ^ n := by rw [Nat.pow_succ]; omega
        have hp : 0 < 2 ^ n := Nat.pow_pos (by decide)
        simp only [Nat.add_sub_cancel] at p3 q3
        omega
    simp only [Nat.add_sub_cancel]
    rw [ep]
    by_cases c : lo.1 = hi.1
    · rw [if_pos c]
      refine ⟨q1, ?_, ?_, fun z => by omega⟩
      · rw [c]; exact q2
      · rw [ite_self] at hb; exact hb
    · rw [if_neg c]
      cases hv : lk3 (2 + (m : Int)) hi.2 (2 + (m : Int) - ((n : Int) + 1), lo.1, hi.1) with
      | some v =>
        have := lk3_some hv
        refine ⟨q1, ⟨by dsimp only; omega, by dsimp only; omega⟩, ?_, fun z => by omega⟩
        rw [ite_self] at hb; exact hb
      | none =>
        have hnew := lk3_none hv
        have hbit : (2 + (m : Int) - ((n : Int) + 1) = 1 + (m : Int)) ↔ n = 0 := by omega
        refine ⟨⟨fun i t ht => ?_, ?_, fun t ht h1 => ?_⟩, ⟨by dsimp only; omega, by dsimp only; simp; omega⟩, ?_, fun z => by omega⟩
        · rcases Nat.lt_or_ge i hi.2.length with q | q
          · rw [List.getElem?_append_left q] at ht
            exact q1.rg i t ht
          · rw [List.getElem?_append_right q] at ht
            have e : i = hi.2.length := by
              rcases Nat.lt_or_ge (i - hi.2.length) 1 with z | z
              · omega
              · rw [List.getElem?_eq_none (by simpa using z)] at ht; cases ht
            subst e
            rw [Nat.sub_self] at ht
            cases ht
            dsimp only
            refine ⟨⟨by omega, by omega⟩, ⟨p2.1, by omega⟩, ⟨q2.1, q2.2⟩⟩
        · show (hi.2 ++ [_]).Nodup
          rw [List.nodup_append]
          exact ⟨q1.nd, List.pairwise_singleton _ _, fun a ha b hb e => hnew (by rw [List.mem_singleton.mp hb] at e; exact e ▸ ha)⟩
        · rcases List.mem_append.mp (show t ∈ hi.2 ++ [_] from ht) with q | q
          · exact q1.sm t q h1
          · have e := List.mem_singleton.mp q
            subst e
            have n0 := hbit.mp h1
            subst n0
            have a := p4 rfl
            have b := q4 rfl
            have e1 : (2 + (m : Int) - ((0 : Nat) + 1 : Int)) = 1 + (m : Int) := by omega
            rcases a with a | a <;> rcases b with b | b
            · exact absurd (a.trans b.symm) c
            · left; rw [a, b]; exact Prod.ext h1 rfl
            · right; rw [a, b]; exact Prod.ext h1 rfl
            · exact absurd (a.trans b.symm) c
        · show big m (hi.2 ++ [_]) ≤ _
          unfold big at hb hb2 ⊢
          rw [List.countP_append]
          by_cases n0 : n = 0
          · have hz : (2 + (m : Int) - ((n : Int) + 1)) = 1 + (m : Int) := hbit.mpr n0
            have : List.countP (fun t : T3 => decide (t.1 ≠ 1 + (m : Int))) [(2 + (m : Int) - ((n : Int) + 1), lo.1, hi.1)] = 0 := by
              rw [List.countP_cons]
              simp [hz]
            rw [this]
            rw [ite_self] at hb
            exact hb
          · have := hb2 (by omega)
            have h1 : List.countP (fun t : T3 => decide (t.1 ≠ 1 + (m : Int))) [(2 + (m : Int) - ((n : Int) + 1), lo.1, hi.1)] ≤ 1 := List.countP_le_length
            omega
end Lk17
namespace Lk17
open PySem PySem.Spec L2 PD Cho
open PyProof.Rows hiding St
theorem sub_lenG {α : Type} [DecidableEq α] : ∀ (l m : List α), l.Nodup → (∀ x ∈ l, x ∈ m) → l.length ≤ m.length
  | [], m, _, _ => Nat.zero_le _
  | a :: l, m, hn, h => by
    have hn := List.nodup_cons.mp hn
    have ha := h a List.mem_cons_self
    have ih := sub_lenG l (m.erase a) hn.2 fun x hx => (List.mem_erase_of_ne fun e : x = a => hn.1 (e ▸ hx)).mpr (h x (List.mem_cons_of_mem _ hx))
    have hl := List.length_erase_of_mem ha
    have := List.length_pos_of_mem ha
    rw [List.length_cons]
    omega
theorem PIn.len {m : Nat} {ks : List T3} (h : PIn m ks) : ks.length ≤ 2 + big m ks := by
  have e : ks.length = ks.countP (fun t => decide (t.1 = 1 + (m : Int))) + big m ks := by
    unfold big
    rw [List.length_eq_countP_add_countP (fun t : T3 => decide (t.1 = 1 + (m : Int)))]
    congr 1
    refine List.countP_congr fun t _ => ?_
    simp
  have h2 : ks.countP (fun t => decide (t.1 = 1 + (m : Int))) ≤ 2 := by
    rw [List.countP_eq_length_filter]
    refine sub_lenG (ks.filter fun t => decide (t.1 = 1 + (m : Int))) [(1 + (m : Int), 0, 1), (1 + (m : Int), 1, 0)] (h.nd.filter _) fun t ht => ?_
    obtain ⟨h1, h2⟩ := List.mem_filter.mp ht
    have := h.sm t h1 (by simpa using h2)
    simp only [List.mem_cons, List.not_mem_nil, or_false]
    exact this
  omega
theorem iOf_nD : ∀ l : List Nat, iOf (l.map nD) = some (castL l)
  | [] => rfl
  | x :: l => by
    rw [List.map_cons]
    show (iOf (l.map nD)).map _ = _
    rw [iOf_nD l]
    rfl
theorem wsOf_nD : ∀ fs : List (List Nat), wsOf (fs.map fun l => .tuple (l.map nD)) = some (fs.map castL)
  | [] => rfl
  | l :: fs => by
    rw [List.map_cons]
    show ((iOf (l.map nD)).bind fun ws => (wsOf (fs.map fun l => .tuple (l.map nD))).map fun l => ws :: l) = _
    rw [iOf_nD, wsOf_nD fs]
    rfl
theorem nof_inv (m : Nat) : ∀ (wss : List (List Int)) (st : List Int × List T3), (∀ ws ∈ wss, ws.length = 2 ^ m ∧ ∀ x ∈ ws, x = 0 ∨ x = 1) → PIn m st.2 → (∀ x ∈ st.1, 0 ≤ x ∧ x < 2 + (m : Int) + (st.2.length : Int)) →
    PIn m (wss.foldl (nofStep (m : Int)) st).2 ∧ (∀ x ∈ (wss.foldl (nofStep (m : Int)) st).1, 0 ≤ x ∧ x < 2 + (m : Int) + ((wss.foldl (nofStep (m : Int)) st).2.length : Int)) ∧ big m (wss.foldl (nofStep (m : Int)) st).2 ≤ big m st.2 + wss.length * (2 ^ (m - 1) - 1)
  | [], st, _, h, h2 => ⟨h, h2, by simp⟩
  | ws :: wss, st, hw, h, h2 => by
    obtain ⟨a1, a2, a3, _⟩ := put3_ok m m ws st.2 (Nat.le_refl _) (hw ws List.mem_cons_self).1 (hw ws List.mem_cons_self).2 h
    have pm := put3_mono (m : Int) m ws st.2
    have e : nofStep (m : Int) st ws = (st.1 ++ [(put3 (m : Int) m ws st.2).1], (put3 (m : Int) m ws st.2).2) := by
      unfold nofStep
      rw [Int.toNat_natCast]
    rw [List.foldl_cons, e]
    obtain ⟨b1, b2, b3⟩ := nof_inv m wss (st.1 ++ [(put3 (m : Int) m ws st.2).1], (put3 (m : Int) m ws st.2).2) (fun v hv => hw v (List.mem_cons_of_mem _ hv)) a1 (fun x hx => by
      dsimp only at hx ⊢
      rcases List.mem_append.mp hx with q | q
      · have := h2 x q
        omega
      · rw [List.mem_singleton.mp q]
        exact a2)
    refine ⟨b1, b2, ?_⟩
    dsimp only at b3
    rw [List.length_cons, Nat.succ_mul]
    omega
def toG (t : T3) : Gate := ([t.1.toNat, t.2.1.toNat, t.2.2.toNat], [0, 0, 1, 1, 0, 1, 0, 1])
theorem int_nD {x : Int} (h : 0 ≤ x) : PyData.int x = nD x.toNat := by
  unfold nD
  rw [Int.toNat_of_nonneg h]
theorem net_fun_ok (m : Nat) (h1 : 1 ≤ m) (h5 : m ≤ 5) (fs : List (List Nat)) (hf : fs.length ≤ 3) (hl : ∀ l ∈ fs, l.length = 2 ^ m ∧ Bits l) (w : Wst) :
    ∃ gs os, sem_net_of_functions [nD m, .list (fs.map fun l => .tuple (l.map nD))] w = .ret (netD m gs os) w ∧ NetOk m gs ∧ (∀ x ∈ os, x < 2 + m + gs.length) ∧ (∀ g ∈ gs, g.1.length ≤ 3) ∧ gs.length ≤ 47 ∧ os.length = fs.length := by
  have hw : ∀ ws ∈ fs.map castL, ws.length = 2 ^ m ∧ ∀ x ∈ ws, x = 0 ∨ x = 1 := fun ws hws => by
    obtain ⟨l, hl', rfl⟩ := List.mem_map.mp hws
    obtain ⟨q1, q2⟩ := hl l hl'
    refine ⟨by unfold castL; rw [List.length_map]; exact q1, fun x hx => ?_⟩
    obtain ⟨y, hy, rfl⟩ := List.mem_map.mp hx
    have := q2 y hy
    omega
  obtain ⟨i1, i2, i3⟩ := nof_inv m (fs.map castL) ([], []) hw ⟨(fun i t h => by cases h), List.nodup_nil, (fun _ h => nomatch h)⟩ (fun _ h => nomatch h)
  have ol := nofF_len1 (m : Int) (fs.map castL) ([], [])
  have hok : nofOk (m : Int) (fs.map castL) = true := by
    unfold nofOk
    simp only [Bool.and_eq_true, decide_eq_true_eq, List.all_eq_true]
    refine ⟨⟨⟨by omega, by omega⟩, by rw [List.length_map]; omega⟩, fun ws hws => ?_⟩
    rw [Int.toNat_natCast]
    exact (hw ws hws).1
  have il := i1.len
  have b0 : big m ([] : List T3) = 0 := rfl
  have hp : 2 ^ (m - 1) ≤ 16 := Nat.le_trans (Nat.pow_le_pow_right (by decide) (show m - 1 ≤ 4 by omega)) (by decide)
  have hmul : (fs.map castL).length * (2 ^ (m - 1) - 1) ≤ 3 * 15 := Nat.mul_le_mul (by rw [List.length_map]; exact hf) (by omega)
  rw [List.length_map] at ol hmul i3
  have es : sem_net_of_functions [nD m, .list (fs.map fun l => .tuple (l.map nD))] w = .ret (.tuple [nD m, .tuple ((nofF (m : Int) (fs.map castL)).2.map gateD), .tuple ((nofF (m : Int) (fs.map castL)).1.map PyData.int)]) w := by
    show (match wsOf (fs.map fun l => .tuple (l.map nD)) with
      | some wss => if nofOk (m : Int) wss = true then FR.ret (.tuple [.int (m : Int), .tuple ((nofF (m : Int) wss).2.map gateD), .tuple ((nofF (m : Int) wss).1.map PyData.int)]) w else .bad
      | none => .bad) = _
    rw [wsOf_nD]
    show (if nofOk (m : Int) (fs.map castL) = true then _ else _) = _
    rw [if_pos hok]
    rfl
  have eN : nofF (m : Int) (fs.map castL) = (fs.map castL).foldl (nofStep (m : Int)) ([], []) := rfl
  rw [eN] at es
  generalize (fs.map castL).foldl (nofStep (m : Int)) ([], []) = R at *
  have l0 : (([], []) : List Int × List T3).1.length = 0 := rfl
  have l1 : big m (([], []) : List Int × List T3).2 = 0 := rfl
  refine ⟨R.2.map toG, R.1.map Int.toNat, ?_, fun i g hg => ?_, fun x hx => ?_, fun g hg => ?_, ?_, ?_⟩
  · rw [es]
    unfold netD
    have e1 : (R.2.map toG).map gD = R.2.map gateD := by
      rw [List.map_map]
      refine List.map_congr_left fun t ht => ?_
      obtain ⟨i, hi⟩ := List.mem_iff_getElem?.mp ht
      obtain ⟨⟨a, _⟩, ⟨b, _⟩, ⟨c, _⟩⟩ := i1.rg i t hi
      show gD (toG t) = gateD t
      unfold gateD gD toG
      dsimp only
      rw [int_nD a, int_nD b, int_nD c]
      rfl
    have e2 : (R.1.map Int.toNat).map nD = R.1.map PyData.int := by
      rw [List.map_map]
      refine List.map_congr_left fun x hx => ?_
      exact (int_nD (i2 x hx).1).symm
    rw [e1, e2]
  · rw [List.getElem?_map] at hg
    cases ht : R.2[i]? with
    | none => rw [ht] at hg; cases hg
    | some t =>
      rw [ht] at hg
      cases hg
      obtain ⟨a, b, c⟩ := i1.rg i t ht
      refine ⟨fun x hx => ?_, rfl, fun x hx => ?_, by show 3 ≤ 6; decide⟩
      · have hx : x ∈ [t.1.toNat, t.2.1.toNat, t.2.2.toNat] := hx
        simp only [List.mem_cons, List.not_mem_nil, or_false] at hx
        rcases hx with e | e | e <;> omega
      · have hx : x ∈ [0, 0, 1, 1, 0, 1, 0, 1] := hx
        simp only [List.mem_cons, List.not_mem_nil, or_false] at hx
        omega
  · obtain ⟨y, hy, rfl⟩ := List.mem_map.mp hx
    have := i2 y hy
    rw [List.length_map]
    omega
  · obtain ⟨t, _, rfl⟩ := List.mem_map.mp hg
    exact Nat.le_refl 3
  · rw [List.length_map]
    omega
  · rw [List.length_map]
    omega
end Lk17
namespace Lk17
open PySem PySem.Spec L2 PD
open PyProof.Rows hiding St
def toI (g : Gate) : GateI := (g.1.map fun (n : Nat) => (n : Int), g.2.map fun (n : Nat) => (n : Int))
theorem gI_toI (g : Gate) : gI (toI g) = gD g := by
  unfold gI toI gD
  dsimp only
  rw [← nD_ints, ← nD_ints]
theorem netI_of (n : Nat) (gs : List Gate) (os : List Nat) : netI n (gs.map toI) (os.map fun (n : Nat) => (n : Int)) = netD n gs os := by
  unfold netI netD
  rw [← nD_ints, List.map_map]
  have e : gI ∘ toI = gD := funext gI_toI
  rw [e]
/-- a gate of the net: only the fan may be refused -/
theorem chk_of {fan n i : Nat} {g : Gate} (ok : GOk (2 + n + i) g) : chk fan n (toI g, i) = decide (g.1.length ≤ fan) := by
  unfold chk toI
  dsimp only
  have h1 : ((g.1.map fun (n : Nat) => (n : Int)).all fun x => decide (0 ≤ x) && decide (x < 2 + (n : Int) + (i : Int))) = true := by
    rw [List.all_eq_true]
    intro x hx
    obtain ⟨y, hy, rfl⟩ := List.mem_map.mp hx
    have := ok.sig y hy
    simp
    omega
  have h2 : ((g.2.map fun (n : Nat) => (n : Int)).all fun x => x == 0 || x == 1) = true := by
    rw [List.all_eq_true]
    intro x hx
    obtain ⟨y, hy, rfl⟩ := List.mem_map.mp hx
    have := ok.bit y hy
    simp
    omega
  rw [h1, h2, List.length_map, List.length_map, decide_eq_true ok.len]
  simp

theorem check_net_ok {n fan : Nat} {gs : List Gate} {os : List Nat} (ok : NetOk n gs) (ho : ∀ x ∈ os, x < 2 + n + gs.length) (hf : ∀ g ∈ gs, g.1.length ≤ fan) (hos : os.length ≤ 1000) (w : Wst) : sem_check_net [netD n gs os, nD fan] w = .ret .none w := by
  have sm : ∀ g ∈ gs.map toI, g.1.length ≤ 20 ∧ g.2.length ≤ 1000 := fun g hg => by
    obtain ⟨g', hg', rfl⟩ := List.mem_map.mp hg
    obtain ⟨i, hi⟩ := List.mem_iff_getElem?.mp hg'
    have o := ok i g' hi
    have h6 := o.fan
    have hp : 2 ^ g'.1.length ≤ 64 := Nat.le_trans (Nat.pow_le_pow_right (by decide) h6) (by decide)
    have := o.len
    unfold toI
    simp only [List.length_map]
    omega
  have c := (check_ok (n := n) (fan := fan) (os := os.map fun (n : Nat) => (n : Int)) sm (by rw [List.length_map]; exact hos) w).2
  have hn : ((gs.map toI).zipIdx 0).find? (fun p => !chk fan n p) = none := by
    rw [List.find?_eq_none]
    rintro ⟨g, i⟩ hp
    obtain ⟨h1, h2, h3⟩ := List.mem_zipIdx hp
    have hi : i < gs.length := by rw [List.length_map] at h2; omega
    have e : g = toI gs[i] := by
      rw [h3]
      simp
    subst e
    rw [chk_of (ok i gs[i] (List.getElem?_eq_getElem hi)), decide_eq_true (hf _ (List.getElem_mem hi))]
    decide
  have hO : osOk n (gs.map toI).length (os.map fun (n : Nat) => (n : Int)) = true := by
    unfold osOk
    rw [List.all_eq_true]
    intro x hx
    obtain ⟨y, hy, rfl⟩ := List.mem_map.mp hx
    have := ho y hy
    rw [List.length_map]
    simp
    omega
  have z := (c hn).1 hO
  rw [netI_of] at z
  exact z
theorem depth_of_ok {n : Nat} {gs : List Gate} {os : List Nat} (ok : NetOk n gs) (ho : ∀ x ∈ os, x < 2 + n + gs.length) (hsz : n + gs.length ≤ 1000) (hos : os.length ≤ 900) (w : Wst) : sem_depth_of [netD n gs os] w = .ret (nD (lvl (levN n gs) os)) w := by
  have sl : (2000 : Nat) ≤ sizeLine := by decide
  have e1 := levels_of_ok (os := os) ok hsz w
  have hl : (levN n gs).length = 2 + n + gs.length := by unfold levN; rw [levN_len, List.length_replicate]
  have c := cmpD_pure (vs := [2]) (tg := gNm 2) (ft := fYes) (fe := fIxS 1 (fSlot 2)) nD (fun _ => true) (fun o => nD (nth (levN n gs) o)) ⟨[some (.val (netD n gs os)), some (.val (.list ((levN n gs).map nD))), none], w⟩ os (fun x hx => by
    have e := atI_nD (m := levN n gs) (x := x) (by rw [hl]; exact ho x hx)
    refine ⟨_, _, rfl, rfl, fun _ => ⟨⟨[some (.val (netD n gs os)), some (.val (.list ((levN n gs).map nD))), some (.val (nD x))], w⟩, ?_, rfl⟩, fun h => nomatch h⟩
    simp -implicitDefEqProofs [nD_eq] at e ⊢
    simp -implicitDefEqProofs [e]) 0 (by omega)
  rw [List.filter_eq_self.mpr (fun _ _ => rfl)] at c
  have em := dMax_nD (os.map (nth (levN n gs)))
  rw [List.map_map] at em
  have e0 : (os.map fun o => nD (nth (levN n gs) o)) = os.map (nD ∘ nth (levN n gs)) := rfl
  rw [e0] at c
  have el : (os.map (nth (levN n gs))).foldl max 0 = lvl (levN n gs) os := rfl
  rw [el] at em
  have a2 : dIx (netD n gs os) (.int 2) = some (.tuple (os.map nD)) := rfl
  have hl2 : os.length + 1 ≤ sizeLine := by omega
  simp only [sem_depth_of, semOf, startS, f_depth_of]
  simp -implicitDefEqProofs [e1, a2, c, hl2, em]
/-! ### what is gathered tells the same -/
section
variable {n : Nat} {gs : List Gate} {os : List Nat} {fan : Nat} {M : List (Nat × Gate)} {ks : List Nat}
def gs2 (n : Nat) (M : List (Nat × Gate)) (ks : List Nat) : List Gate := newN n (keptM (2 + n) (newN n M) ks)
def os2 (n : Nat) (os : List Nat) (M : List (Nat × Gate)) (ks : List Nat) : List Nat := (os.map (atF (2 + n) (keysOf M))).map (atF (2 + n) ks)
structure Gath (n : Nat) (gs : List Gate) (os : List Nat) (fan : Nat) (g2 : List Gate) (o2 : List Nat) : Prop where
  ok : NetOk n g2
  out : ∀ x ∈ o2, x < 2 + n + g2.length
  len : g2.length ≤ gs.length
  olen : o2.length = os.length
  fan : ∀ g ∈ g2, g.1.length ≤ fan
  val : ∀ bits : List Nat, bits.length = n → Bits bits → o2.map (nth (evalN g2 bits)) = os.map (nth (evalN gs bits))
  dep : lvl (levN n g2) o2 ≤ lvl (levN n gs) os
  use : ∀ i, i < g2.length → 2 + n + i ∈ o2 ++ g2.flatMap (·.1)
theorem lvl_le {a b : List Nat} {l m : List Nat} (h : ∀ x ∈ l, ∃ y ∈ m, nth a x ≤ nth b y) : lvl a l ≤ lvl b m := by
  refine fold_max_le _ _ _ (Nat.zero_le _) fun z hz => ?_
  obtain ⟨x, hx, rfl⟩ := List.mem_map.mp hz
  obtain ⟨y, hy, h1⟩ := h x hx
  exact Nat.le_trans h1 (le_lvl hy)
theorem gath_of (ok : NetOk n gs) (G : GI n gs os fan M) (hl : M.length ≤ gs.length) (ha : ks.Pairwise (· < ·)) (k : KI n (newN n M) (os.map (atF (2 + n) (keysOf M))) ks []) : Gath n gs os fan (gs2 n M ks) (os2 n os M ks) := by
  have ok1 := newN_ok G.cl
  have cl2 := kept_cl ok1 k ha
  have keys2 := keptM_keys (2 + n) (newN n M) ks
  have ok2 := newN_ok cl2
  have dom1 : ∀ x ∈ os, x < 2 + n ∨ x ∈ keysOf M := fun x hx => by
    by_cases q : x < 2 + n
    · exact .inl q
    · exact .inr (G.cl.out x hx (by omega))
  have dom2 : ∀ y ∈ os.map (atF (2 + n) (keysOf M)), y < 2 + n ∨ y ∈ keysOf (keptM (2 + n) (newN n M) ks) := fun x hx => by
    by_cases q : x < 2 + n
    · exact .inl q
    · exact .inr (cl2.out x hx (by omega))
  have getp : ∀ p ∈ keptM (2 + n) (newN n M) ks, ∃ (i : Nat) (g : Gate), (newN n M)[i]? = some g ∧ p.1 = 2 + n + i ∧ p.2 = g := fun p hp => by
    obtain ⟨q1, q2⟩ := mem_keptM hp
    obtain ⟨h1, h2⟩ := k.rg _ q1
    have hg : p.1 - (2 + n) < (newN n M).length := by omega
    refine ⟨p.1 - (2 + n), (newN n M)[p.1 - (2 + n)], List.getElem?_eq_getElem hg, by omega, ?_⟩
    rw [q2, List.getD_eq_getElem?_getD, List.getElem?_eq_getElem hg]
    rfl
  have kl := k.len
  have len2 : (gs2 n M ks).length = ks.length := by unfold gs2; rw [newN_len]; unfold keptM; rw [List.length_map]
  refine ⟨ok2, ?_, ?_, ?_, ?_, ?_, ?_, ?_⟩
  · have := newN_out cl2
    rw [keys2] at this
    exact this
  · rw [len2]
    rw [newN_len] at kl
    omega
  · unfold os2
    rw [List.length_map, List.length_map]
  · intro g hg
    unfold gs2 at hg
    obtain ⟨p, hp, rfl⟩ := List.mem_map.mp (show g ∈ (keptM (2 + n) (newN n M) ks).map fun p => newG (atF (2 + n) (keysOf (keptM (2 + n) (newN n M) ks))) p.2 from hg)
    obtain ⟨i, g1, e1, e2, e3⟩ := getp p hp
    show (p.2.1.map _).length ≤ fan
    rw [List.length_map, e3]
    have hm := List.mem_of_getElem? e1
    obtain ⟨q, hq, rfl⟩ := List.mem_map.mp (show g1 ∈ M.map fun p => newG (atF (2 + n) (keysOf M)) p.2 from hm)
    show (q.2.1.map _).length ≤ fan
    rw [List.length_map]
    exact G.fn q hq
  · intro bits hb hbit
    have v1 := newN_val G.cl hb (ρ := nth (evalN gs bits)) (fun x hx => evalN_in hb ok hx) (G.val bits hb hbit)
    have v2 := newN_val cl2 hb (ρ := nth (evalN (newN n M) bits)) (fun x hx => evalN_in hb ok1 hx) (fun p hp => by
      obtain ⟨i, g1, e1, e2, e3⟩ := getp p hp
      rw [e2, e3, val_at hb ok1 e1, gval_val])
    rw [keys2] at v2
    unfold os2
    rw [List.map_map, List.map_map]
    refine List.map_congr_left fun x hx => ?_
    have h1 := v1 x (dom1 x hx)
    have h2 := v2 (atF (2 + n) (keysOf M) x) (by have := dom2 _ (List.mem_map.mpr ⟨x, hx, rfl⟩); rwa [keys2] at this)
    exact h2.trans h1
  · have d1 := newN_lev G.cl G.lev G.pos
    have d2 := newN_lev cl2 (lv := nth (levN n (newN n M))) (fun p hp x hx => by
      obtain ⟨i, g1, e1, e2, e3⟩ := getp p hp
      rw [e3] at hx
      rw [e2, lev_at ok1 e1]
      have := le_lvl (ls := levN n (newN n M)) hx
      omega) (fun p hp => by
      obtain ⟨i, g1, e1, e2, e3⟩ := getp p hp
      rw [e2, lev_at ok1 e1]
      omega)
    rw [keys2] at d2
    refine lvl_le fun y hy => ?_
    unfold os2 at hy
    obtain ⟨z, hz, rfl⟩ := List.mem_map.mp hy
    obtain ⟨x, hx, rfl⟩ := List.mem_map.mp hz
    have h1 := d1 x (dom1 x hx)
    have h2 := d2 (atF (2 + n) (keysOf M) x) (by have := dom2 _ hz; rwa [keys2] at this)
    exact ⟨x, hx, Nat.le_trans h2 h1⟩
  · intro i hi
    rw [len2] at hi
    have hp : (keptM (2 + n) (newN n M) ks)[i]? = some (ks[i], (newN n M).getD (ks[i] - (2 + n)) ([], [])) := by
      unfold keptM
      rw [List.getElem?_map, List.getElem?_eq_getElem hi]
      rfl
    have hat := key_at cl2 hp
    rw [keys2] at hat
    dsimp only at hat
    have hki : ks[i] ∈ ks := List.getElem_mem hi
    rw [← hat]
    rcases k.use ks[i] (.inl hki) (k.rg _ hki).1 with q | ⟨k2, hk2, q⟩
    · exact List.mem_append_left _ (List.mem_map.mpr ⟨_, q, rfl⟩)
    · refine List.mem_append_right _ (List.mem_flatMap.mpr ⟨newG (atF (2 + n) (keysOf (keptM (2 + n) (newN n M) ks))) ((newN n M).getD (k2 - (2 + n)) ([], [])), List.mem_map.mpr ⟨(k2, (newN n M).getD (k2 - (2 + n)) ([], [])), List.mem_map.mpr ⟨k2, hk2, rfl⟩, rfl⟩, ?_⟩)
      rw [keys2]
      exact List.mem_map.mpr ⟨ks[i], q, rfl⟩
end
end Lk17
namespace Lk17
open PySem PySem.Spec L2 PD
open PyProof.Rows hiding St
/-! ### the law's pieces -/
abbrev ls (e2 e3 e4 e5 e6 e7 e8 e9 : Option Ent) (w : Wst) : S := ⟨[none, some .hdl, e2, e3, e4, e5, e6, e7, e8, e9, none, none, none, none], w⟩
structure Net (n : Nat) (gs : List Gate) (os : List Nat) : Prop where
  ok : NetOk n gs
  out : ∀ x ∈ os, x < 2 + n + gs.length
  g3 : ∀ g ∈ gs, g.1.length ≤ 3
  gl : gs.length ≤ 60
  n5 : n ≤ 5
  ol : os.length ≤ 3
def b1F : FO := sAsg (fBin dAddX (fC (.int 3)) (fCallH 1 1 sem__law_next (fCons (fC (.int 4)) fNil))) (gNm 5)
def b2F : FO := sAsg (fCall 2 sem_gathered (fCons (fSlot 4) (fCons (fSlot 5) fNil))) (gNm 6)
def b3F : FO := sDrp (fCall 2 sem_check_net (fCons (fSlot 6) (fCons (fSlot 5) fNil)))
def b4F : FO := sIf (fOr (tVal (fBin dNe (fIxS 6 (fC (.int 0))) (fSlot 2))) (fOr (tVal (fBin dNe (fLen (fIxS 6 (fC (.int 2)))) (fLen (fIxS 4 (fC (.int 2)))))) (fOr (tVal (fBin dGt (fLen (fIxS 6 (fC (.int 1)))) (fLen (fIxS 4 (fC (.int 1)))))) (tVal (fBin dGt (fCall 1 sem_depth_of (fCons (fSlot 6) fNil)) (fCall 1 sem_depth_of (fCons (fSlot 4) fNil))))))) (sRet (fC (.bool false))) sNil
def b5E : FE := (fBin dEq (fCall 2 sem_net_told (fCons (fSlot 6) (fCons (fCall 2 sem_bits_of (fCons (fSlot 12) (fCons (fSlot 2) fNil))) fNil))) (fCall 2 sem_net_told (fCons (fSlot 4) (fCons (fCall 2 sem_bits_of (fCons (fSlot 12) (fCons (fSlot 2) fNil))) fNil))))
def b5F : FO := sIf (fNot (tVal (fB1 dAll (fFz (fComp [12] (fR1 (fCons (fBin dShl (fC (.int 1)) (fSlot 2)) fNil)) (gNm 12) fYes b5E))))) (sRet (fC (.bool false))) sNil
def b6F : FO := sSetO 7 (fListF (fIxS 6 (fC (.int 2))))
def b7B : FO := sSetO 7 (fCatL (fSlot 7) (fFz (fListF (fSlot 8))))
def b7F : FO := sFor [8, 9] (fIt (fIxS 6 (fC (.int 1)))) (gTp 2 (gCo (gNm 8) (gCo (gNm 9) gNo))) b7B
def b8E : FE := (fBin dIn (fBin dAddX (fBin dAddX (fC (.int 2)) (fSlot 2)) (fSlot 13)) (fSlot 7))
def b8F : FO := sIf (fNot (tVal (fB1 dAll (fFz (fComp [13] (fR1 (fCons (fLen (fIxS 6 (fC (.int 1)))) fNil)) (gNm 13) fYes b8E))))) (sRet (fC (.bool false))) sNil
def bB : FO := sSeq b1F (sSeq b2F (sSeq b3F (sSeq b4F (sSeq b5F (sSeq b6F (sSeq b7F b8F))))))
section
variable {n : Nat} {gs g2 : List Gate} {os o2 : List Nat} {fan : Nat}
theorem b1_ok (ns : List Int) (k : Int) (hk : 0 ≤ k) (e3 e4 : Option Ent) : ∃ fan k', 0 ≤ k' ∧ 3 ≤ fan ∧ fan ≤ 6 ∧ b1F (ls (some (.val (nD n))) e3 e4 none none none none none ⟨ns, k⟩) = .nx (ls (some (.val (nD n))) e3 e4 (some (.val (nD fan))) none none none none ⟨ns, k'⟩) := by
  obtain ⟨r, hr, e⟩ := next_nat ns k 4 hk (by decide)
  have n4 : nD 4 = .int 4 := rfl
  rw [n4] at e
  have ea : dAddX (.int 3) (nD r) = some (nD (3 + r)) := rfl
  refine ⟨3 + r, k + 1, by omega, by omega, by omega, ?_⟩
  unfold b1F
  simp -implicitDefEqProofs [e, ea]
theorem b2_ok (N : Net n gs os) (h3 : 3 ≤ fan) (h6 : fan ≤ 6) (e2 e3 : Option Ent) (w : Wst) : ∃ g2 o2, Gath n gs os fan g2 o2 ∧ b2F (ls e2 e3 (some (.val (netD n gs os))) (some (.val (nD fan))) none none none none w) = .nx (ls e2 e3 (some (.val (netD n gs os))) (some (.val (nD fan))) (some (.val (netD n g2 o2))) none none none w) := by
  have a := N.n5
  have b := N.ol
  obtain ⟨M, ks, G, hl, ha, k, e⟩ := gathered_ok (fan := fan) N.ok N.out N.gl (by omega) (by omega) (fun g hg => Nat.le_trans (N.g3 g hg) h3) h6 w
  refine ⟨gs2 n M ks, os2 n os M ks, gath_of N.ok G hl ha k, ?_⟩
  have e' : sem_gathered [netD n gs os, nD fan] w = .ret (netD n (gs2 n M ks) (os2 n os M ks)) w := e
  unfold b2F
  simp -implicitDefEqProofs [e']
theorem b3_ok (N : Net n gs os) (H : Gath n gs os fan g2 o2) (e2 e3 e4 : Option Ent) (w : Wst) : b3F (ls e2 e3 e4 (some (.val (nD fan))) (some (.val (netD n g2 o2))) none none none w) = .nx (ls e2 e3 e4 (some (.val (nD fan))) (some (.val (netD n g2 o2))) none none none w) := by
  have b := N.ol
  have e := check_net_ok (fan := fan) H.ok H.out H.fan (by rw [H.olen]; omega) w
  unfold b3F
  simp -implicitDefEqProofs [e]
theorem b4_ok (N : Net n gs os) (H : Gath n gs os fan g2 o2) (e3 e5 : Option Ent) (w : Wst) : b4F (ls (some (.val (nD n))) e3 (some (.val (netD n gs os))) e5 (some (.val (netD n g2 o2))) none none none w) = .nx (ls (some (.val (nD n))) e3 (some (.val (netD n gs os))) e5 (some (.val (netD n g2 o2))) none none none w) := by
  have a := N.n5
  have b := N.ol
  have c := N.gl
  have l2 := H.len
  have d1 := depth_of_ok N.ok N.out (by omega) (by omega) w
  have d2 := depth_of_ok H.ok H.out (by omega) (by rw [H.olen]; omega) w
  have a0 : dIx (netD n g2 o2) (.int 0) = some (nD n) := rfl
  have a1 : dIx (netD n g2 o2) (.int 1) = some (.tuple (g2.map gD)) := rfl
  have a2 : dIx (netD n g2 o2) (.int 2) = some (.tuple (o2.map nD)) := rfl
  have b1 : dIx (netD n gs os) (.int 1) = some (.tuple (gs.map gD)) := rfl
  have b2 : dIx (netD n gs os) (.int 2) = some (.tuple (os.map nD)) := rfl
  have n1 : dNe (nD n) (nD n) = some (.bool false) := dNe_refl (n := 0) Shp.int (by decide)
  have g1 := dGt_nn (lvl (levN n g2) o2) (lvl (levN n gs) os)
  rw [decide_eq_false (by have := H.dep; omega)] at g1
  have hl : ¬ ((gs.length : Int) < (g2.length : Int)) := by omega
  have ho := H.olen
  unfold b4F
  simp -implicitDefEqProofs [a0, a1, a2, b1, b2, n1, ho, hl, d1, d2, g1]
theorem told_ok (H : Gath n gs os fan g2 o2) (N : Net n gs os) (x : Nat) (w : Wst) :
    sem_net_told [netD n gs os, .tuple ((bitL x n).map nD)] w = .ret (.tuple ((os.map (nth (evalN gs (bitL x n)))).map nD)) w ∧ sem_net_told [netD n g2 o2, .tuple ((bitL x n).map nD)] w = .ret (.tuple ((os.map (nth (evalN gs (bitL x n)))).map nD)) w := by
  have a := N.n5
  have b := N.ol
  have c := N.gl
  have l2 := H.len
  have hb := bitL_len x n
  have hbit : Bits (bitL x n) := bitL_bit x n
  refine ⟨net_told_ok hb hbit N.ok N.out (by omega) (by omega) w, ?_⟩
  rw [← H.val _ hb hbit]
  exact net_told_ok hb hbit H.ok H.out (by omega) (by rw [H.olen]; omega) w
theorem b5_ok (N : Net n gs os) (H : Gath n gs os fan g2 o2) (e3 e5 : Option Ent) (w : Wst) : b5F (ls (some (.val (nD n))) e3 (some (.val (netD n gs os))) e5 (some (.val (netD n g2 o2))) none none none w) = .nx (ls (some (.val (nD n))) e3 (some (.val (netD n gs os))) e5 (some (.val (netD n g2 o2))) none none none w) := by
  have sl : (2000 : Nat) ≤ sizeLine := by decide
  have a := N.n5
  have hp : 2 ^ n ≤ 32 := Nat.le_trans (Nat.pow_le_pow_right (by decide) a) (by decide)
  have c := cmpD_pure (vs := [12]) (tg := gNm 12) (ft := fYes) (fe := b5E) nD (fun _ => true) (fun _ => .bool true) (ls (some (.val (nD n))) e3 (some (.val (netD n gs os))) e5 (some (.val (netD n g2 o2))) none none none w) (List.range (2 ^ n)) (fun x hx => by
    obtain ⟨t1, t2⟩ := told_ok H N x w
    have eb := bits_of_ok x n (by omega) w
    have ee := dEq_refl (tD_shp (os.map (nth (evalN gs (bitL x n))))) (by decide)
    refine ⟨_, _, rfl, rfl, fun _ => ⟨⟨[none, some .hdl, some (.val (nD n)), e3, some (.val (netD n gs os)), e5, some (.val (netD n g2 o2)), none, none, none, none, none, some (.val (nD x)), none], w⟩, ?_, rfl⟩, fun h => nomatch h⟩
    unfold b5E
    generalize (os.map (nth (evalN gs (bitL x n)))).map nD = A at *
    generalize (bitL x n).map nD = B at *
    simp -implicitDefEqProofs [eb, t1, t2, ee]) 0 (by rw [List.length_range]; omega)
  rw [List.filter_eq_self.mpr (fun _ _ => rfl)] at c
  have d := dAll_mapf (List.range (2 ^ n)) (fun _ => true)
  rw [show (List.range (2 ^ n)).all (fun _ => true) = true by simp] at d
  have sh := shl1_nat n (by omega)
  have r1 : rng1 (.int ((2 ^ n : Nat) : Int)) = some ((List.range (2 ^ n)).map nD) := rng1_nat (by omega)
  unfold b5F
  generalize b5E = BE at *
  generalize 2 ^ n = P at *
  have shn : dShl (.int 1) (nD n) = some (.int (P : Int)) := sh
  simp -implicitDefEqProofs [shn, r1, c, d]
theorem b67_ok (N : Net n gs os) (H : Gath n gs os fan g2 o2) (e2 e3 e4 e5 : Option Ent) (w : Wst) : sSeq b6F b7F (ls e2 e3 e4 e5 (some (.val (netD n g2 o2))) none none none w) = .nx (ls e2 e3 e4 e5 (some (.val (netD n g2 o2))) (some (.own ((o2 ++ g2.flatMap (·.1)).map nD))) none none w) := by
  have sl : (2000 : Nat) ≤ sizeLine := by decide
  have b := N.ol
  have c := N.gl
  have l2 := H.len
  have z := forD_foldi (kl := [8, 9]) (tg := (gTp 2 (gCo (gNm 8) (gCo (gNm 9) gNo)))) (body := b7B) gD (fun u : List Nat => ls e2 e3 e4 e5 (some (.val (netD n g2 o2))) (some (.own (u.map nD))) none none w) (fun u g => u ++ g.1) (fun i u => u.length ≤ o2.length + 6 * i) g2 0 (fun i u g hg h => by
    have hi := (List.getElem?_eq_some_iff.mp hg).1
    have h6 := (H.ok i g hg).fan
    have hh : u.length + g.1.length ≤ sizeLine := by have := H.olen; omega
    have hc := catD_ll (x := u.map nD) (y := g.1.map nD) (by simp; exact hh)
    refine ⟨by rw [List.length_append]; omega, ⟨[none, some .hdl, e2, e3, e4, e5, some (.val (netD n g2 o2)), some (.own (u.map nD)), some (.val (.tuple (g.1.map nD))), some (.val (.tuple (g.2.map nD))), none, none, none, none], w⟩, ⟨[none, some .hdl, e2, e3, e4, e5, some (.val (netD n g2 o2)), some (.own ((u ++ g.1).map nD)), some (.val (.tuple (g.1.map nD))), some (.val (.tuple (g.2.map nD))), none, none, none, none], w⟩, rfl, .inl ?_, rfl⟩
    unfold b7B
    simp -implicitDefEqProofs [hc]) o2 (by omega)
  have f : ∀ (l : List Gate) (u : List Nat), l.foldl (fun u g => u ++ g.1) u = u ++ l.flatMap (·.1) := by
    intro l
    induction l with
    | nil => intro u; simp
    | cons g l ih => intro u; rw [List.foldl_cons, ih, List.flatMap_cons, List.append_assoc]
  have z1 := z.1
  rw [f] at z1
  have a1 : dIx (netD n g2 o2) (.int 1) = some (.tuple (g2.map gD)) := rfl
  have a2 : dIx (netD n g2 o2) (.int 2) = some (.tuple (o2.map nD)) := rfl
  unfold b6F b7F
  unfold ls at *
  generalize b7B = BB at *
  simp -implicitDefEqProofs only [List.map_append] at z1
  simp -implicitDefEqProofs [a1, a2, z1]
theorem b8_ok (N : Net n gs os) (H : Gath n gs os fan g2 o2) (e3 e4 e5 : Option Ent) (w : Wst) : ∃ s2, b8F (ls (some (.val (nD n))) e3 e4 e5 (some (.val (netD n g2 o2))) (some (.own ((o2 ++ g2.flatMap (·.1)).map nD))) none none w) = .nx s2 ∧ kill [4, 5, 6, 7, 8, 9] s2 = ls (some (.val (nD n))) e3 none none none none none none w := by
  have sl : (2000 : Nat) ≤ sizeLine := by decide
  have c0 := N.gl
  have l2 := H.len
  generalize hU : o2 ++ g2.flatMap (·.1) = U
  have hin : ∀ i, i < g2.length → dIn (nD (2 + n + i)) (.list (U.map nD)) = some (.bool true) := fun i hi => by
    have := H.use i hi
    rw [hU] at this
    rw [nD_ints]
    have z := dIn_int (l := U.map fun n : Nat => (n : Int)) (i := ((2 + n + i : Nat) : Int))
    rw [decide_eq_true (List.mem_map.mpr ⟨_, this, rfl⟩)] at z
    exact z
  obtain ⟨ys, s', e, ⟨e7, hs'⟩, hq, hl⟩ := cmpD_inv_eq (vs := [13]) (tg := gNm 13) (ft := fYes) (fe := b8E) (fun s => ∃ e7, (e7 = some (.own (U.map nD)) ∨ e7 = some (.val (.list (U.map nD)))) ∧ s = ls (some (.val (nD n))) e3 e4 e5 (some (.val (netD n g2 o2))) e7 none none w) (fun d => d = .bool true) ((List.range g2.length).map nD) (fun d hd s hs => by
    obtain ⟨e7, h7, rfl⟩ := hs
    obtain ⟨i, hi, rfl⟩ := List.mem_map.mp hd
    have hi := List.mem_range.mp hi
    have ea : dAddX (.int 2) (nD n) = some (nD (2 + n)) := rfl
    have eb : dAddX (nD (2 + n)) (nD i) = some (nD (2 + n + i)) := rfl
    have ei := hin i hi
    refine ⟨_, _, .bool true, ⟨[none, some .hdl, some (.val (nD n)), e3, e4, e5, some (.val (netD n g2 o2)), some (.val (.list (U.map nD))), none, none, none, none, none, some (.val (nD i))], w⟩, rfl, rfl, ?_, rfl, some (.val (.list (U.map nD))), .inr rfl, rfl⟩
    unfold b8E
    rcases h7 with h7 | h7 <;> subst h7 <;> simp -implicitDefEqProofs [ea, eb, ei]) 0 (ls (some (.val (nD n))) e3 e4 e5 (some (.val (netD n g2 o2))) (some (.own (U.map nD))) none none w) (by simp; omega) ⟨_, .inl rfl, rfl⟩
  obtain ⟨h7, hs'⟩ := hs'
  subst hs'
  have hys : ys = (List.range g2.length).map fun _ => .bool true := by
    apply List.ext_getElem
    · rw [hl, List.length_map, List.length_map]
    · intro i h1 h2
      rw [hq _ (List.getElem_mem h1), List.getElem_map]
  have d := dAll_mapf (List.range g2.length) (fun _ => true)
  rw [show (List.range g2.length).all (fun _ => true) = true by simp, ← hys] at d
  have a1 : dIx (netD n g2 o2) (.int 1) = some (.tuple (g2.map gD)) := rfl
  have r1 : rng1 (.int (g2.length : Int)) = some ((List.range g2.length).map nD) := rng1_nat (by omega)
  refine ⟨ls (some (.val (nD n))) e3 e4 e5 (some (.val (netD n g2 o2))) e7 none none w, ?_, rfl⟩
  unfold b8F
  unfold ls at *
  generalize b8E = BE at *
  generalize (List.range g2.length).map nD = RG at *
  simp -implicitDefEqProofs [a1, r1, e, d]
theorem bB_ok (N : Net n gs os) (ns : List Int) (k : Int) (hk : 0 ≤ k) (e3 : Option Ent) : ∃ s2 k', 0 ≤ k' ∧ bB (ls (some (.val (nD n))) e3 (some (.val (netD n gs os))) none none none none none ⟨ns, k⟩) = .nx s2 ∧ kill [4, 5, 6, 7, 8, 9] s2 = ls (some (.val (nD n))) e3 none none none none none none ⟨ns, k'⟩ := by
  obtain ⟨fan, k', hk', h3, h6, e1⟩ := b1_ok (n := n) ns k hk e3 (some (.val (netD n gs os)))
  obtain ⟨g2, o2, H, e2⟩ := b2_ok N h3 h6 (some (.val (nD n))) e3 ⟨ns, k'⟩
  have e4 := b3_ok N H (some (.val (nD n))) e3 (some (.val (netD n gs os))) ⟨ns, k'⟩
  have e5 := b4_ok N H e3 (some (.val (nD fan))) ⟨ns, k'⟩
  have e6 := b5_ok N H e3 (some (.val (nD fan))) ⟨ns, k'⟩
  have e7 := b67_ok N H (some (.val (nD n))) e3 (some (.val (netD n gs os))) (some (.val (nD fan))) ⟨ns, k'⟩
  obtain ⟨s2, e8, e9⟩ := b8_ok N H e3 (some (.val (netD n gs os))) (some (.val (nD fan))) ⟨ns, k'⟩
  refine ⟨s2, k', hk', ?_, e9⟩
  unfold bB
  rw [← sSeq_assoc b6F b7F b8F]
  rw [sSeq_s, e1, O.seq_nx, sSeq_s, e2, O.seq_nx, sSeq_s, e4, O.seq_nx, sSeq_s, e5, O.seq_nx, sSeq_s, e6, O.seq_nx, sSeq_s, e7, O.seq_nx, e8]
end
end Lk17
namespace Lk17
open PySem PySem.Spec L2 PD
open PyProof.Rows hiding St
def p0F : FO := sAsg (fBin dAddX (fC (.int 1)) (fCallH 1 1 sem__law_next (fCons (fC (.int 5)) fNil))) (gNm 2)
def fnE : FE := (fB1 dTup (fFz (fComp [11] (fR1 (fCons (fBin dShl (fC (.int 1)) (fSlot 2)) fNil)) (gNm 11) fYes (fCallH 1 1 sem__law_next (fCons (fC (.int 2)) fNil)))))
def p1F : FO := sSetO 3 (fComp [10] (fR1 (fCons (fBin dAddX (fC (.int 1)) (fCallH 1 1 sem__law_next (fCons (fC (.int 3)) fNil))) fNil)) (gNm 10) fYes fnE)
def netsE : FE := (fFz (fLim (fCons (fCall 2 sem_net_of_functions (fCons (fSlot 2) (fCons (fSlot 3) fNil))) (fCons (fCallH 2 1 sem__law_net (fCons (fSlot 2) (fCons (fCallH 1 1 sem__law_next (fCons (fC (.int 18)) fNil)) fNil))) fNil))))
theorem law_eq : f_law = sSeq p0F (sSeq p1F (sSeq (sFor [4, 5, 6, 7, 8, 9] (fIt netsE) (gNm 4) bB) (sRet (fC (.bool true))))) := rfl
theorem p0_ok (ns : List Int) (k : Int) (hk : 0 ≤ k) : ∃ n, 1 ≤ n ∧ n ≤ 5 ∧ p0F (ls none none none none none none none none ⟨ns, k⟩) = .nx (ls (some (.val (nD n))) none none none none none none none ⟨ns, k + 1⟩) := by
  obtain ⟨r, hr, e⟩ := next_nat ns k 5 hk (by decide)
  have n5 : nD 5 = .int 5 := rfl
  rw [n5] at e
  have ea : dAddX (.int 1) (nD r) = some (nD (1 + r)) := rfl
  refine ⟨1 + r, by omega, by omega, ?_⟩
  unfold p0F
  simp -implicitDefEqProofs [e, ea]
theorem tuples_of {P : Nat} : ∀ {ys : List D}, (∀ y ∈ ys, ∃ l : List Nat, y = .tuple (l.map nD) ∧ l.length = P ∧ Bits l) → ∃ rows : List (List Nat), ys = rows.map (fun l => .tuple (l.map nD)) ∧ ∀ r ∈ rows, r.length = P ∧ Bits r
  | [], _ => ⟨[], rfl, (fun _ h => nomatch h)⟩
  | y :: ys, h => by
    obtain ⟨l, e, hl⟩ := h y List.mem_cons_self
    obtain ⟨rows, e2, hr⟩ := tuples_of fun y hy => h y (List.mem_cons_of_mem _ hy)
    refine ⟨l :: rows, by rw [e, e2]; rfl, fun r hr' => ?_⟩
    rcases List.mem_cons.mp hr' with q | q
    · rw [q]; exact hl
    · exact hr r q
theorem p1_ok (ns : List Int) (k : Int) (hk : 0 ≤ k) (n : Nat) (hn : n ≤ 5) : ∃ (fs : List (List Nat)) (k' : Int), 0 ≤ k' ∧ fs.length ≤ 3 ∧ (∀ l ∈ fs, l.length = 2 ^ n ∧ Bits l) ∧
    p1F (ls (some (.val (nD n))) none none none none none none none ⟨ns, k⟩) = .nx (ls (some (.val (nD n))) (some (.own (fs.map fun l => .tuple (l.map nD)))) none none none none none none ⟨ns, k'⟩) := by
  have sl : (2000 : Nat) ≤ sizeLine := by decide
  have hp : 2 ^ n ≤ 32 := Nat.le_trans (Nat.pow_le_pow_right (by decide) hn) (by decide)
  have sh := shl1_nat n (by omega)
  have r1 : rng1 (.int ((2 ^ n : Nat) : Int)) = some ((List.range (2 ^ n)).map nD) := rng1_nat (by omega)
  have n2 : nD 2 = .int 2 := rfl
  obtain ⟨r, hr, er⟩ := next_nat ns k 3 hk (by decide)
  have n3 : nD 3 = .int 3 := rfl
  rw [n3] at er
  have ea : dAddX (.int 1) (nD r) = some (nD (1 + r)) := rfl
  have r2 : rng1 (nD (1 + r)) = some ((List.range (1 + r)).map nD) := rng1_nat (by omega)
  generalize 2 ^ n = P at *
  have shn : dShl (.int 1) (nD n) = some (.int (P : Int)) := sh
  obtain ⟨ys, s', e, ⟨k', hk', hs'⟩, hq, hl⟩ := cmpD_inv_eq (vs := [10]) (tg := gNm 10) (ft := fYes) (fe := fnE)
    (fun s => ∃ k' : Int, 0 ≤ k' ∧ s = ls (some (.val (nD n))) none none none none none none none ⟨ns, k'⟩) (fun d => ∃ l : List Nat, d = .tuple (l.map nD) ∧ l.length = P ∧ Bits l) ((List.range (1 + r)).map nD)
    (fun d _ s hs => by
      obtain ⟨k, hk, rfl⟩ := hs
      obtain ⟨l, k1, hk1, hl1, hb1, c1⟩ := draws_list (vs := [11]) (j := 11) (fe := (fCallH 1 1 sem__law_next (fCons (fC (.int 2)) fNil))) (b := 2)
        (fun k => ⟨[none, some .hdl, some (.val (nD n)), none, none, none, none, none, none, none, some (.val d), none, none, none], ⟨ns, k⟩⟩) (fun k d' hk => by
          obtain ⟨x, hx, ex⟩ := next_nat ns k 2 hk (by decide)
          rw [n2] at ex
          refine ⟨x, hx, ⟨[none, some .hdl, some (.val (nD n)), none, none, none, none, none, none, none, some (.val d), some (.val d'), none, none], ⟨ns, k + 1⟩⟩, ?_, rfl⟩
          simp -implicitDefEqProofs [ex]) ((List.range P).map nD) k 0 hk (by simp; omega)
      refine ⟨_, _, .tuple (l.map nD), ⟨[none, some .hdl, some (.val (nD n)), none, none, none, none, none, none, none, some (.val d), none, none, none], ⟨ns, k1⟩⟩, rfl, rfl, ?_, ⟨l, rfl, by simpa using hl1, hb1⟩, k1, hk1, rfl⟩
      unfold fnE
      simp -implicitDefEqProofs [shn, r1, c1]) 0 (ls (some (.val (nD n))) none none none none none none none ⟨ns, k + 1⟩) (by simp; omega) ⟨k + 1, by omega, rfl⟩
  subst hs'
  obtain ⟨fs, rfl, hf⟩ := tuples_of hq
  refine ⟨fs, k', hk', by rw [List.length_map] at hl; simp at hl; omega, hf, ?_⟩
  unfold p1F
  unfold ls at *
  generalize (List.range (1 + r)).map nD = R9 at e r2
  generalize fnE = FE at e ⊢
  simp -implicitDefEqProofs [er, ea, r2, e]
theorem nets_ok (ns : List Int) (k : Int) (hk : 0 ≤ k) (n : Nat) (h1 : 1 ≤ n) (hn : n ≤ 5) (fs : List (List Nat)) (hf : fs.length ≤ 3) (hl : ∀ l ∈ fs, l.length = 2 ^ n ∧ Bits l) : ∃ gs1 os1 gs2 os2 k' e3, 0 ≤ k' ∧ Net n gs1 os1 ∧ Net n gs2 os2 ∧
    netsE (ls (some (.val (nD n))) (some (.own (fs.map fun l => .tuple (l.map nD)))) none none none none none none ⟨ns, k⟩) = .ok (.list [netD n gs1 os1, netD n gs2 os2]) (ls (some (.val (nD n))) e3 none none none none none none ⟨ns, k'⟩) := by
  obtain ⟨gs1, os1, e1, a1, a2, a3, a4, a5⟩ := net_fun_ok n h1 hn fs hf hl ⟨ns, k⟩
  obtain ⟨r, hr, er⟩ := next_nat ns k 18 hk (by decide)
  have n18 : nD 18 = .int 18 := rfl
  rw [n18] at er
  obtain ⟨gs2, os2, k', hk', b1, b2, b3, b4, b5, b6, e2⟩ := law_net_ok ns (k + 1) (by omega) n r (by omega) (by omega)
  have s2 : (2 : Nat) ≤ sizeLine := by decide
  refine ⟨gs1, os1, gs2, os2, k', some (.val (.list (fs.map fun l => .tuple (l.map nD)))), hk', ⟨a1, a2, a3, by omega, hn, by omega⟩, ⟨b1, by rw [b3]; exact b6, b2, by omega, hn, b5⟩, ?_⟩
  unfold netsE
  generalize (fs.map fun l => PyData.tuple (l.map nD)) = FS at *
  simp -implicitDefEqProofs [e1, er, e2, s2]
theorem good (ns : List Int) (hn : ns.length ≤ 63) : ∃ s', f_law (lawS 14 ns) = .rt (.bool true) s' := by
  obtain ⟨n, h1, h5, e0⟩ := p0_ok ns 0 (by decide)
  obtain ⟨fs, k1, hk1, hf, hl, e1⟩ := p1_ok ns (0 + 1) (by decide) n h5
  obtain ⟨gs1, os1, gs2, os2, k2, e3, hk2, N1, N2, e2⟩ := nets_ok ns k1 hk1 n h1 h5 fs hf hl
  obtain ⟨s1, k3, hk3, c1, c2⟩ := bB_ok N1 ns k2 hk2 e3
  obtain ⟨s2, k4, hk4, d1, d2⟩ := bB_ok N2 ns k3 hk3 e3
  have st : lawS 14 ns = ls none none none none none none none none ⟨ns, 0⟩ := rfl
  have loop : forD [4, 5, 6, 7, 8, 9] (gNm 4) bB [netD n gs1 os1, netD n gs2 os2] (ls (some (.val (nD n))) e3 none none none none none none ⟨ns, k2⟩) = .nx (ls (some (.val (nD n))) e3 none none none none none none ⟨ns, k4⟩) := by
    show (match bB (ls (some (.val (nD n))) e3 (some (.val (netD n gs1 os1))) none none none none none ⟨ns, k2⟩) with
      | .nx s2 => forD [4, 5, 6, 7, 8, 9] (gNm 4) bB [netD n gs2 os2] (kill [4, 5, 6, 7, 8, 9] s2)
      | .ct s2 => forD [4, 5, 6, 7, 8, 9] (gNm 4) bB [netD n gs2 os2] (kill [4, 5, 6, 7, 8, 9] s2)
      | .bk s2 => .nx (kill [4, 5, 6, 7, 8, 9] s2)
      | o => o) = _
    rw [c1]
    show forD [4, 5, 6, 7, 8, 9] (gNm 4) bB [netD n gs2 os2] (kill [4, 5, 6, 7, 8, 9] s1) = _
    rw [c2]
    show (match bB (ls (some (.val (nD n))) e3 (some (.val (netD n gs2 os2))) none none none none none ⟨ns, k3⟩) with
      | .nx s2 => forD [4, 5, 6, 7, 8, 9] (gNm 4) bB [] (kill [4, 5, 6, 7, 8, 9] s2)
      | .ct s2 => forD [4, 5, 6, 7, 8, 9] (gNm 4) bB [] (kill [4, 5, 6, 7, 8, 9] s2)
      | .bk s2 => .nx (kill [4, 5, 6, 7, 8, 9] s2)
      | o => o) = _
    rw [d1]
    show forD [4, 5, 6, 7, 8, 9] (gNm 4) bB [] (kill [4, 5, 6, 7, 8, 9] s2) = _
    rw [d2]
    rfl
  refine ⟨ls (some (.val (nD n))) e3 none none none none none none ⟨ns, k4⟩, ?_⟩
  rw [law_eq, st, sSeq_s, e0, O.seq_nx, sSeq_s, e1, O.seq_nx, sSeq_s, sFor_s]
  generalize netsE = NE at *
  generalize bB = BB at *
  simp -implicitDefEqProofs [e2, loop]
end Lk17
namespace Lk17
open PySem PySem.Spec L2 PD
open PyProof.Rows hiding St
def ex0 : ExT := fun _ => none
def exX (X_BadNet : Addr) : ExT := fun k => match k with
  | 0 => some (X_BadNet, ["at", "why"])
  | _ => none
theorem all_mk {l : PySem.W.OpenLaw} {w : World} {K : PySem.W.Frag} {h : Heap} {mg : Str → Option Value} {fa : Addr} (X : K.In h) (G : h.Ns mainGlobals mg) (hfa : mg "law" = some (.ref fa))
    {C_Chooser : Addr}
    {f0 : Addr} {od0 an0 : Option Addr} {sl0 : Array (Option Value)} {oc0 kV0 dc0 pm0 cd0 ct0 : Value}
    {f1 : Addr} {od1 an1 : Option Addr} {sl1 : Array (Option Value)} {oc1 kV1 dc1 pm1 cd1 ct1 : Value}
    {f2 : Addr} {od2 an2 : Option Addr} {sl2 : Array (Option Value)} {oc2 kV2 dc2 pm2 cd2 ct2 : Value}
    {f3 : Addr} {od3 an3 : Option Addr} {sl3 : Array (Option Value)} {oc3 kV3 dc3 pm3 cd3 ct3 : Value}
    {f4 : Addr} {od4 an4 : Option Addr} {sl4 : Array (Option Value)} {oc4 kV4 dc4 pm4 cd4 ct4 : Value}
    {f5 : Addr} {od5 an5 : Option Addr} {sl5 : Array (Option Value)} {oc5 kV5 dc5 pm5 cd5 ct5 : Value}
    {f6 : Addr} {od6 an6 : Option Addr} {sl6 : Array (Option Value)} {oc6 kV6 dc6 pm6 cd6 ct6 : Value}
    {f7 : Addr} {od7 an7 : Option Addr} {sl7 : Array (Option Value)} {oc7 kV7 dc7 pm7 cd7 ct7 : Value}
    {f8 : Addr} {od8 an8 : Option Addr} {sl8 : Array (Option Value)} {oc8 kV8 dc8 pm8 cd8 ct8 : Value}
    {f9 : Addr} {od9 an9 : Option Addr} {sl9 : Array (Option Value)} {oc9 kV9 dc9 pm9 cd9 ct9 : Value}
    {f10 : Addr} {od10 an10 : Option Addr} {sl10 : Array (Option Value)} {oc10 kV10 dc10 pm10 cd10 ct10 : Value}
    {f11 : Addr} {od11 an11 : Option Addr} {sl11 : Array (Option Value)} {oc11 kV11 dc11 pm11 cd11 ct11 : Value}
    {f12 : Addr} {od12 an12 : Option Addr} {sl12 : Array (Option Value)} {oc12 kV12 dc12 pm12 cd12 ct12 : Value}
    {f13 : Addr} {od13 an13 : Option Addr} {sl13 : Array (Option Value)} {oc13 kV13 dc13 pm13 cd13 ct13 : Value}
    {f14 : Addr} {od14 an14 : Option Addr} {sl14 : Array (Option Value)} {oc14 kV14 dc14 pm14 cd14 ct14 : Value}
    {f15 : Addr} {od15 an15 : Option Addr} {sl15 : Array (Option Value)} {oc15 kV15 dc15 pm15 cd15 ct15 : Value}
    {f16 : Addr} {od16 an16 : Option Addr} {sl16 : Array (Option Value)} {oc16 kV16 dc16 pm16 cd16 ct16 : Value}
    {f17 : Addr} {od17 an17 : Option Addr} {sl17 : Array (Option Value)} {oc17 kV17 dc17 pm17 cd17 ct17 : Value}
    {f18 : Addr} {od18 an18 : Option Addr} {sl18 : Array (Option Value)} {oc18 kV18 dc18 pm18 cd18 ct18 : Value}
    {f19 : Addr} {od19 an19 : Option Addr} {sl19 : Array (Option Value)} {oc19 kV19 dc19 pm19 cd19 ct19 : Value}
    {f20 : Addr} {od20 an20 : Option Addr} {sl20 : Array (Option Value)} {oc20 kV20 dc20 pm20 cd20 ct20 : Value}
    {f21 : Addr} {od21 an21 : Option Addr} {sl21 : Array (Option Value)} {oc21 kV21 dc21 pm21 cd21 ct21 : Value}
    {f22 : Addr} {od22 an22 : Option Addr} {sl22 : Array (Option Value)} {oc22 kV22 dc22 pm22 cd22 ct22 : Value}
    {f23 : Addr} {od23 an23 : Option Addr} {sl23 : Array (Option Value)} {oc23 kV23 dc23 pm23 cd23 ct23 : Value}
    {f24 : Addr} {od24 an24 : Option Addr} {sl24 : Array (Option Value)} {oc24 kV24 dc24 pm24 cd24 ct24 : Value}
    {f25 : Addr} {od25 an25 : Option Addr} {sl25 : Array (Option Value)} {oc25 kV25 dc25 pm25 cd25 ct25 : Value}
    {X_BadNet I_BadNet : Addr} {xod_BadNet xan_BadNet : Option Addr} {xsl_BadNet : Array (Option Value)} {xoc_BadNet xdc_BadNet xpm_BadNet xcd_BadNet xct_BadNet : Value}
    (ca_Chooser : PySem.W.nsIn K mainGlobals "Chooser" = some (some (.ref C_Chooser)))
    (pg_Chooser : PySem.W.plainGet K C_Chooser Str.empty = true)
    (hd_Chooser : PySem.W.hasDictIn K C_Chooser = true)
    (po_Chooser : PySem.W.plainOver K C_Chooser = true)
    (sa_Chooser : PySem.W.findIn K (.ref C_Chooser) "__setattr__" = some (some (.builtin "object.__setattr__")))
    (mk_Chooser : PySem.W.makesIn K C_Chooser = true)
    (kc_Chooser : PySem.W.keepIn K (.ref C_Chooser) = true)
    (nf0_Chooser : PySem.W.findIn K (.ref C_Chooser) "many" = some none)
    (nf1_Chooser : PySem.W.findIn K (.ref C_Chooser) "gates" = some none)
    (nf2_Chooser : PySem.W.findIn K (.ref C_Chooser) "known" = some none)
    (a0 : PySem.W.nsIn K mainGlobals "value_of" = some (some (.ref f0)))
    (l0 : K.lookup f0 = some ⟨oc0, od0, .func (PySem.W.fnOf "value_of" "value_of" (defArgs s_value_of) (defBody s_value_of) (defScope s_value_of) .none kV0 dc0 pm0 an0 cd0 ct0), sl0⟩)
    (c0 : PySem.W.codeIn K cd0 "value_of" = true)
    (k0 : PySem.W.keepIn K (.ref f0) = true)
    (a1 : PySem.W.nsIn K mainGlobals "net_values" = some (some (.ref f1)))
    (l1 : K.lookup f1 = some ⟨oc1, od1, .func (PySem.W.fnOf "net_values" "net_values" (defArgs s_net_values) (defBody s_net_values) (defScope s_net_values) .none kV1 dc1 pm1 an1 cd1 ct1), sl1⟩)
    (c1 : PySem.W.codeIn K cd1 "net_values" = true)
    (k1 : PySem.W.keepIn K (.ref f1) = true)
    (a2 : PySem.W.nsIn K mainGlobals "net_told" = some (some (.ref f2)))
    (l2 : K.lookup f2 = some ⟨oc2, od2, .func (PySem.W.fnOf "net_told" "net_told" (defArgs s_net_told) (defBody s_net_told) (defScope s_net_told) .none kV2 dc2 pm2 an2 cd2 ct2), sl2⟩)
    (c2 : PySem.W.codeIn K cd2 "net_told" = true)
    (k2 : PySem.W.keepIn K (.ref f2) = true)
    (a3 : PySem.W.nsIn K mainGlobals "bits_of" = some (some (.ref f3)))
    (l3 : K.lookup f3 = some ⟨oc3, od3, .func (PySem.W.fnOf "bits_of" "bits_of" (defArgs s_bits_of) (defBody s_bits_of) (defScope s_bits_of) .none kV3 dc3 pm3 an3 cd3 ct3), sl3⟩)
    (c3 : PySem.W.codeIn K cd3 "bits_of" = true)
    (k3 : PySem.W.keepIn K (.ref f3) = true)
    (a4 : PySem.W.nsIn K mainGlobals "number_of" = some (some (.ref f4)))
    (l4 : K.lookup f4 = some ⟨oc4, od4, .func (PySem.W.fnOf "number_of" "number_of" (defArgs s_number_of) (defBody s_number_of) (defScope s_number_of) .none kV4 dc4 pm4 an4 cd4 ct4), sl4⟩)
    (c4 : PySem.W.codeIn K cd4 "number_of" = true)
    (k4 : PySem.W.keepIn K (.ref f4) = true)
    (a5 : PySem.W.nsIn K mainGlobals "check_net" = some (some (.ref f5)))
    (l5 : K.lookup f5 = some ⟨oc5, od5, .func (PySem.W.fnOf "check_net" "check_net" (defArgs s_check_net) (defBody s_check_net) (defScope s_check_net) .none kV5 dc5 pm5 an5 cd5 ct5), sl5⟩)
    (c5 : PySem.W.codeIn K cd5 "check_net" = true)
    (k5 : PySem.W.keepIn K (.ref f5) = true)
    (a6 : PySem.W.nsIn K mainGlobals "levels_of" = some (some (.ref f6)))
    (l6 : K.lookup f6 = some ⟨oc6, od6, .func (PySem.W.fnOf "levels_of" "levels_of" (defArgs s_levels_of) (defBody s_levels_of) (defScope s_levels_of) .none kV6 dc6 pm6 an6 cd6 ct6), sl6⟩)
    (c6 : PySem.W.codeIn K cd6 "levels_of" = true)
    (k6 : PySem.W.keepIn K (.ref f6) = true)
    (a7 : PySem.W.nsIn K mainGlobals "depth_of" = some (some (.ref f7)))
    (l7 : K.lookup f7 = some ⟨oc7, od7, .func (PySem.W.fnOf "depth_of" "depth_of" (defArgs s_depth_of) (defBody s_depth_of) (defScope s_depth_of) .none kV7 dc7 pm7 an7 cd7 ct7), sl7⟩)
    (c7 : PySem.W.codeIn K cd7 "depth_of" = true)
    (k7 : PySem.W.keepIn K (.ref f7) = true)
    (a8 : PySem.W.nsIn K mainGlobals "uses_of" = some (some (.ref f8)))
    (l8 : K.lookup f8 = some ⟨oc8, od8, .func (PySem.W.fnOf "uses_of" "uses_of" (defArgs s_uses_of) (defBody s_uses_of) (defScope s_uses_of) .none kV8 dc8 pm8 an8 cd8 ct8), sl8⟩)
    (c8 : PySem.W.codeIn K cd8 "uses_of" = true)
    (k8 : PySem.W.keepIn K (.ref f8) = true)
    (a9 : PySem.W.nsIn K mainGlobals "net_of_functions" = some (some (.ref f9)))
    (l9 : K.lookup f9 = some ⟨oc9, od9, .func (PySem.W.fnOf "net_of_functions" "net_of_functions" (defArgs s_net_of_functions) (defBody s_net_of_functions) (defScope s_net_of_functions) .none kV9 dc9 pm9 an9 cd9 ct9), sl9⟩)
    (c9 : PySem.W.codeIn K cd9 "net_of_functions" = true)
    (k9 : PySem.W.keepIn K (.ref f9) = true)
    (a10 : PySem.W.findIn K (.ref C_Chooser) "__init__" = some (some (.ref f10)))
    (i10 : PySem.W.isFn K (.ref f10) = true)
    (l10 : K.lookup f10 = some ⟨oc10, od10, .func (PySem.W.fnOf "__init__" "Chooser.__init__" (defArgs s_Chooser___init__) (defBody s_Chooser___init__) (defScope s_Chooser___init__) .none kV10 dc10 pm10 an10 cd10 ct10), sl10⟩)
    (c10 : PySem.W.codeIn K cd10 "Chooser.__init__" = true)
    (k10 : PySem.W.keepIn K (.ref f10) = true)
    (a11 : PySem.W.findIn K (.ref C_Chooser) "put" = some (some (.ref f11)))
    (i11 : PySem.W.isFn K (.ref f11) = true)
    (l11 : K.lookup f11 = some ⟨oc11, od11, .func (PySem.W.fnOf "put" "Chooser.put" (defArgs s_Chooser_put) (defBody s_Chooser_put) (defScope s_Chooser_put) .none kV11 dc11 pm11 an11 cd11 ct11), sl11⟩)
    (c11 : PySem.W.codeIn K cd11 "Chooser.put" = true)
    (k11 : PySem.W.keepIn K (.ref f11) = true)
    (a12 : PySem.W.nsIn K mainGlobals "kept_gates" = some (some (.ref f12)))
    (l12 : K.lookup f12 = some ⟨oc12, od12, .func (PySem.W.fnOf "kept_gates" "kept_gates" (defArgs s_kept_gates) (defBody s_kept_gates) (defScope s_kept_gates) .none kV12 dc12 pm12 an12 cd12 ct12), sl12⟩)
    (c12 : PySem.W.codeIn K cd12 "kept_gates" = true)
    (k12 : PySem.W.keepIn K (.ref f12) = true)
    (a13 : PySem.W.nsIn K mainGlobals "renumbered" = some (some (.ref f13)))
    (l13 : K.lookup f13 = some ⟨oc13, od13, .func (PySem.W.fnOf "renumbered" "renumbered" (defArgs s_renumbered) (defBody s_renumbered) (defScope s_renumbered) .none kV13 dc13 pm13 an13 cd13 ct13), sl13⟩)
    (c13 : PySem.W.codeIn K cd13 "renumbered" = true)
    (k13 : PySem.W.keepIn K (.ref f13) = true)
    (a14 : PySem.W.nsIn K mainGlobals "without_unused" = some (some (.ref f14)))
    (l14 : K.lookup f14 = some ⟨oc14, od14, .func (PySem.W.fnOf "without_unused" "without_unused" (defArgs s_without_unused) (defBody s_without_unused) (defScope s_without_unused) .none kV14 dc14 pm14 an14 cd14 ct14), sl14⟩)
    (c14 : PySem.W.codeIn K cd14 "without_unused" = true)
    (k14 : PySem.W.keepIn K (.ref f14) = true)
    (a15 : PySem.W.nsIn K mainGlobals "signals_together" = some (some (.ref f15)))
    (l15 : K.lookup f15 = some ⟨oc15, od15, .func (PySem.W.fnOf "signals_together" "signals_together" (defArgs s_signals_together) (defBody s_signals_together) (defScope s_signals_together) .none kV15 dc15 pm15 an15 cd15 ct15), sl15⟩)
    (c15 : PySem.W.codeIn K cd15 "signals_together" = true)
    (k15 : PySem.W.keepIn K (.ref f15) = true)
    (a16 : PySem.W.nsIn K mainGlobals "words_together" = some (some (.ref f16)))
    (l16 : K.lookup f16 = some ⟨oc16, od16, .func (PySem.W.fnOf "words_together" "words_together" (defArgs s_words_together) (defBody s_words_together) (defScope s_words_together) .none kV16 dc16 pm16 an16 cd16 ct16), sl16⟩)
    (c16 : PySem.W.codeIn K cd16 "words_together" = true)
    (k16 : PySem.W.keepIn K (.ref f16) = true)
    (a17 : PySem.W.nsIn K mainGlobals "gathered_once" = some (some (.ref f17)))
    (l17 : K.lookup f17 = some ⟨oc17, od17, .func (PySem.W.fnOf "gathered_once" "gathered_once" (defArgs s_gathered_once) (defBody s_gathered_once) (defScope s_gathered_once) .none kV17 dc17 pm17 an17 cd17 ct17), sl17⟩)
    (c17 : PySem.W.codeIn K cd17 "gathered_once" = true)
    (k17 : PySem.W.keepIn K (.ref f17) = true)
    (a18 : PySem.W.nsIn K mainGlobals "plain_gate" = some (some (.ref f18)))
    (l18 : K.lookup f18 = some ⟨oc18, od18, .func (PySem.W.fnOf "plain_gate" "plain_gate" (defArgs s_plain_gate) (defBody s_plain_gate) (defScope s_plain_gate) .none kV18 dc18 pm18 an18 cd18 ct18), sl18⟩)
    (c18 : PySem.W.codeIn K cd18 "plain_gate" = true)
    (k18 : PySem.W.keepIn K (.ref f18) = true)
    (a19 : PySem.W.nsIn K mainGlobals "gathered" = some (some (.ref f19)))
    (l19 : K.lookup f19 = some ⟨oc19, od19, .func (PySem.W.fnOf "gathered" "gathered" (defArgs s_gathered) (defBody s_gathered) (defScope s_gathered) .none kV19 dc19 pm19 an19 cd19 ct19), sl19⟩)
    (c19 : PySem.W.codeIn K cd19 "gathered" = true)
    (k19 : PySem.W.keepIn K (.ref f19) = true)
    (a20 : PySem.W.nsIn K mainGlobals "_law_cell_at" = some (some (.ref f20)))
    (l20 : K.lookup f20 = some ⟨oc20, od20, .func (PySem.W.fnOf "_law_cell_at" "_law_cell_at" (defArgs s__law_cell_at) (defBody s__law_cell_at) (defScope s__law_cell_at) .none kV20 dc20 pm20 an20 cd20 ct20), sl20⟩)
    (c20 : PySem.W.codeIn K cd20 "_law_cell_at" = true)
    (k20 : PySem.W.keepIn K (.ref f20) = true)
    (a21 : PySem.W.nsIn K mainGlobals "_law_draw" = some (some (.ref f21)))
    (l21 : K.lookup f21 = some ⟨oc21, od21, .func (PySem.W.fnOf "_law_draw" "_law_draw" (defArgs s__law_draw) (defBody s__law_draw) (defScope s__law_draw) .none kV21 dc21 pm21 an21 cd21 ct21), sl21⟩)
    (c21 : PySem.W.codeIn K cd21 "_law_draw" = true)
    (k21 : PySem.W.keepIn K (.ref f21) = true)
    (a22 : PySem.W.nsIn K mainGlobals "_law_number" = some (some (.ref f22)))
    (l22 : K.lookup f22 = some ⟨oc22, od22, .func (PySem.W.fnOf "_law_number" "_law_number" (defArgs s__law_number) (defBody s__law_number) (defScope s__law_number) .none kV22 dc22 pm22 an22 cd22 ct22), sl22⟩)
    (c22 : PySem.W.codeIn K cd22 "_law_number" = true)
    (k22 : PySem.W.keepIn K (.ref f22) = true)
    (a23 : PySem.W.nsIn K mainGlobals "_law_next" = some (some (.ref f23)))
    (l23 : K.lookup f23 = some ⟨oc23, od23, .func (PySem.W.fnOf "_law_next" "_law_next" (defArgs s__law_next) (defBody s__law_next) (defScope s__law_next) .none kV23 dc23 pm23 an23 cd23 ct23), sl23⟩)
    (c23 : PySem.W.codeIn K cd23 "_law_next" = true)
    (k23 : PySem.W.keepIn K (.ref f23) = true)
    (a24 : PySem.W.nsIn K mainGlobals "_law_net" = some (some (.ref f24)))
    (l24 : K.lookup f24 = some ⟨oc24, od24, .func (PySem.W.fnOf "_law_net" "_law_net" (defArgs s__law_net) (defBody s__law_net) (defScope s__law_net) .none kV24 dc24 pm24 an24 cd24 ct24), sl24⟩)
    (c24 : PySem.W.codeIn K cd24 "_law_net" = true)
    (k24 : PySem.W.keepIn K (.ref f24) = true)
    (a25 : PySem.W.nsIn K mainGlobals "law" = some (some (.ref f25)))
    (l25 : K.lookup f25 = some ⟨oc25, od25, .func (PySem.W.fnOf "law" "law" (defArgs s_law) (defBody s_law) (defScope s_law) .none kV25 dc25 pm25 an25 cd25 ct25), sl25⟩)
    (c25 : PySem.W.codeIn K cd25 "law" = true)
    (k25 : PySem.W.keepIn K (.ref f25) = true)
    (z_all : PySem.W.nsIn K mainGlobals "all" = some none)
    (z_dict : PySem.W.nsIn K mainGlobals "dict" = some none)
    (z_enumerate : PySem.W.nsIn K mainGlobals "enumerate" = some none)
    (z_int : PySem.W.nsIn K mainGlobals "int" = some none)
    (z_isinstance : PySem.W.nsIn K mainGlobals "isinstance" = some none)
    (z_len : PySem.W.nsIn K mainGlobals "len" = some none)
    (z_list : PySem.W.nsIn K mainGlobals "list" = some none)
    (z_max : PySem.W.nsIn K mainGlobals "max" = some none)
    (z_range : PySem.W.nsIn K mainGlobals "range" = some none)
    (z_set : PySem.W.nsIn K mainGlobals "set" = some none)
    (z_sorted : PySem.W.nsIn K mainGlobals "sorted" = some none)
    (z_tuple : PySem.W.nsIn K mainGlobals "tuple" = some none)
    (z_zip : PySem.W.nsIn K mainGlobals "zip" = some none)
    (xa_BadNet : PySem.W.nsIn K mainGlobals "BadNet" = some (some (.ref X_BadNet)))
    (xini_BadNet : PySem.W.excInitIn K X_BadNet ESX.exTail "Exception.__new__" = true)
    (xovr_BadNet : PySem.W.excOver K X_BadNet ESX.exTail = true)
    (xsa_BadNet : PySem.W.findIn K (.ref X_BadNet) "__setattr__" = some (some (.builtin "object.__setattr__")))
    (xga_BadNet : PySem.W.findIn K (.ref X_BadNet) "__getattribute__" = some (some (.builtin "BaseException.__getattribute__")))
    (xgg_BadNet : PySem.W.findIn K (.ref X_BadNet) "__getattr__" = some none)
    (xhd_BadNet : PySem.W.hasDictIn K X_BadNet = true)
    (xno0_BadNet : PySem.W.findIn K (.ref X_BadNet) "at" = some none)
    (xno1_BadNet : PySem.W.findIn K (.ref X_BadNet) "why" = some none)
    (xin_BadNet : PySem.W.findIn K (.ref X_BadNet) "__init__" = some (some (.ref I_BadNet)))
    (xti_BadNet : PySem.W.typeIn K (.ref I_BadNet) = some (.type "function"))
    (xl_BadNet : K.lookup I_BadNet = some ⟨xoc_BadNet, xod_BadNet, .func (PySem.W.fnOf "__init__" "BadNet.__init__" (defArgs si_BadNet) (defBody si_BadNet) (defScope si_BadNet) .none .none xdc_BadNet xpm_BadNet xan_BadNet xcd_BadNet xct_BadNet), xsl_BadNet⟩)
    (xc_BadNet : PySem.W.codeIn K xcd_BadNet "BadNet.__init__" = true)
    (xk_BadNet : PySem.W.keepIn K (.ref X_BadNet) = true)
    (xe_BadNet : PySem.W.subIn K (.ref X_BadNet) (.type "BaseException") = some true)
    (xty_BadNet : PySem.W.typeIn K (.ref X_BadNet) = some (.type "type"))
    (xic_BadNet : PySem.W.isClsIn K X_BadNet = true)
    (xs_BadNet : PySem.W.subIn K (.ref X_BadNet) (.ref X_BadNet) = some true)
    (nol : NoL K)
    (good : ∀ ns : List Int, ns.length ≤ 63 → ∃ s', f_law (lawS 14 ns) = .rt (.bool true) s') :
    ∃ fd : FuncData, (∀ (s : Shared) (v : Value), BindsTo s fd ⟨[v], []⟩ [("_law_script", v)]) ∧ ∀ base : Heap, K.In base → base.Ns mainGlobals mg → FnOk l.prog w K mg base (L2.CX l.prog w) 8 fa fd ["_law_script"] (spLaw K) := by
  have e := hfa.symm.trans (PySem.W.mg_of X G a25)
  cases e
  have F0 := fun_mk (st := s_value_of) l0 c0 k0
  have b0 := F0.binds (ps := ["told", "values"]) fun _ _ _ _ _ _ us hl => match us, hl with | [_, _], _ => rfl
  have F1 := fun_mk (st := s_net_values) l1 c1 k1
  have b1 := F1.binds (ps := ["net", "bits"]) fun _ _ _ _ _ _ us hl => match us, hl with | [_, _], _ => rfl
  have F2 := fun_mk (st := s_net_told) l2 c2 k2
  have b2 := F2.binds (ps := ["net", "bits"]) fun _ _ _ _ _ _ us hl => match us, hl with | [_, _], _ => rfl
  have F3 := fun_mk (st := s_bits_of) l3 c3 k3
  have b3 := F3.binds (ps := ["number", "many"]) fun _ _ _ _ _ _ us hl => match us, hl with | [_, _], _ => rfl
  have F4 := fun_mk (st := s_number_of) l4 c4 k4
  have b4 := F4.binds (ps := ["bits"]) fun _ _ _ _ _ _ us hl => match us, hl with | [_], _ => rfl
  have F5 := fun_mk (st := s_check_net) l5 c5 k5
  have b5 := F5.binds (ps := ["net", "fan"]) fun _ _ _ _ _ _ us hl => match us, hl with | [_, _], _ => rfl
  have F6 := fun_mk (st := s_levels_of) l6 c6 k6
  have b6 := F6.binds (ps := ["net"]) fun _ _ _ _ _ _ us hl => match us, hl with | [_], _ => rfl
  have F7 := fun_mk (st := s_depth_of) l7 c7 k7
  have b7 := F7.binds (ps := ["net"]) fun _ _ _ _ _ _ us hl => match us, hl with | [_], _ => rfl
  have F8 := fun_mk (st := s_uses_of) l8 c8 k8
  have b8 := F8.binds (ps := ["net"]) fun _ _ _ _ _ _ us hl => match us, hl with | [_], _ => rfl
  have F9 := fun_mk (st := s_net_of_functions) l9 c9 k9
  have b9 := F9.binds (ps := ["many", "functions"]) fun _ _ _ _ _ _ us hl => match us, hl with | [_, _], _ => rfl
  have F10 := fun_mk (st := s_Chooser___init__) l10 c10 k10
  have b10 := F10.binds (ps := ["self", "many"]) fun _ _ _ _ _ _ us hl => match us, hl with | [_, _], _ => rfl
  have F11 := fun_mk (st := s_Chooser_put) l11 c11 k11
  have b11 := F11.binds (ps := ["self", "words"]) fun _ _ _ _ _ _ us hl => match us, hl with | [_, _], _ => rfl
  have F12 := fun_mk (st := s_kept_gates) l12 c12 k12
  have b12 := F12.binds (ps := ["net"]) fun _ _ _ _ _ _ us hl => match us, hl with | [_], _ => rfl
  have F13 := fun_mk (st := s_renumbered) l13 c13 k13
  have b13 := F13.binds (ps := ["net", "gates"]) fun _ _ _ _ _ _ us hl => match us, hl with | [_, _], _ => rfl
  have F14 := fun_mk (st := s_without_unused) l14 c14 k14
  have b14 := F14.binds (ps := ["net"]) fun _ _ _ _ _ _ us hl => match us, hl with | [_], _ => rfl
  have F15 := fun_mk (st := s_signals_together) l15 c15 k15
  have b15 := F15.binds (ps := ["one", "signal", "inner"]) fun _ _ _ _ _ _ us hl => match us, hl with | [_, _, _], _ => rfl
  have F16 := fun_mk (st := s_words_together) l16 c16 k16
  have b16 := F16.binds (ps := ["told", "signal", "inner", "signals"]) fun _ _ _ _ _ _ us hl => match us, hl with | [_, _, _, _], _ => rfl
  have F17 := fun_mk (st := s_gathered_once) l17 c17 k17
  have b17 := F17.binds (ps := ["told", "gates", "uses", "fan", "first"]) fun _ _ _ _ _ _ us hl => match us, hl with | [_, _, _, _, _], _ => rfl
  have F18 := fun_mk (st := s_plain_gate) l18 c18 k18
  have b18 := F18.binds (ps := ["told"]) fun _ _ _ _ _ _ us hl => match us, hl with | [_], _ => rfl
  have F19 := fun_mk (st := s_gathered) l19 c19 k19
  have b19 := F19.binds (ps := ["net", "fan"]) fun _ _ _ _ _ _ us hl => match us, hl with | [_, _], _ => rfl
  have F20 := fun_mk (st := s__law_cell_at) l20 c20 k20
  have b20 := F20.binds (ps := ["_law_script", "_law_k"]) fun _ _ _ _ _ _ us hl => match us, hl with | [_, _], _ => rfl
  have F21 := fun_mk (st := s__law_draw) l21 c21 k21
  have b21 := F21.binds (ps := ["_law_cell", "_law_k", "_law_bound"]) fun _ _ _ _ _ _ us hl => match us, hl with | [_, _, _], _ => rfl
  have F22 := fun_mk (st := s__law_number) l22 c22 k22
  have b22 := F22.binds (ps := ["_law_cell", "_law_k", "_law_bound"]) fun _ _ _ _ _ _ us hl => match us, hl with | [_, _, _], _ => rfl
  have F23 := fun_mk (st := s__law_next) l23 c23 k23
  have b23 := F23.binds (ps := ["_law_draw_here", "_law_bound"]) fun _ _ _ _ _ _ us hl => match us, hl with | [_, _], _ => rfl
  have F24 := fun_mk (st := s__law_net) l24 c24 k24
  have b24 := F24.binds (ps := ["_law_draw_here", "_law_inputs", "_law_many"]) fun _ _ _ _ _ _ us hl => match us, hl with | [_, _, _], _ => rfl
  have F25 := fun_mk (st := s_law) l25 c25 k25
  have T_Chooser : ClsF K "Chooser" C_Chooser ["many", "gates", "known"] := ⟨ca_Chooser, ⟨pg_Chooser, hd_Chooser, po_Chooser, sa_Chooser⟩, fun f hf => by simp only [List.mem_cons, List.not_mem_nil, or_false] at hf; rcases hf with rfl | rfl | rfl <;> assumption⟩
  have B : Bt mg := ⟨PySem.W.mg_none_of X G z_all, PySem.W.mg_none_of X G z_dict, PySem.W.mg_none_of X G z_enumerate, PySem.W.mg_none_of X G z_int, PySem.W.mg_none_of X G z_isinstance, PySem.W.mg_none_of X G z_len, PySem.W.mg_none_of X G z_list, PySem.W.mg_none_of X G z_max, PySem.W.mg_none_of X G z_range, PySem.W.mg_none_of X G z_set, PySem.W.mg_none_of X G z_sorted, PySem.W.mg_none_of X G z_tuple, PySem.W.mg_none_of X G z_zip⟩
  have TX_BadNet : XCls K mg "BadNet" X_BadNet I_BadNet ["at", "why"] := { gC := PySem.W.mg_of X G xa_BadNet, ini := xini_BadNet, ovr := xovr_BadNet, sa := xsa_BadNet, xf := xf_mk xga_BadNet xgg_BadNet xe_BadNet xhd_BadNet, no := fun n hn => by simp only [List.mem_cons, List.not_mem_nil, or_false] at hn; rcases hn with rfl | rfl <;> assumption, iC := xin_BadNet, tI := xti_BadNet, kC := xk_BadNet, tyC := xty_BadNet, te := te_mk xe_BadNet xic_BadNet xty_BadNet xs_BadNet, init := xi_BadNet xovr_BadNet xsa_BadNet xhd_BadNet xno0_BadNet xno1_BadNet ⟨_, _, _, _, _, _, _, _, _, _, _, _, _, _, _, _, _, _, _, xl_BadNet, xc_BadNet⟩ }
  refine ⟨PySem.W.fnOf "law" "law" (defArgs s_law) (defBody s_law) (defScope s_law) .none kV25 dc25 pm25 an25 cd25 ct25, fun s v => .of_eq rfl, fun base _ _ => ?_⟩
  have K__law_cell_at := ok__law_cell_at (P := l.prog) (w := w) (base := base) (ex := (exX X_BadNet)) (k := 0) F20 b20 (PySem.W.mg_of X G a20) B
  have K__law_draw := ok__law_draw (P := l.prog) (w := w) (base := base) (ex := (exX X_BadNet)) (k := 0) F21 b21 (PySem.W.mg_of X G a21) B
  have K__law_number := ok__law_number (P := l.prog) (w := w) (base := base) (ex := (exX X_BadNet)) (k := 1) F22 b22 (PySem.W.mg_of X G a22) B (K__law_draw.mono (by decide))
  have K__law_next := ok__law_next (P := l.prog) (w := w) (base := base) (ex := (exX X_BadNet)) (k := 2) F23 b23 (PySem.W.mg_of X G a23) B (K__law_cell_at.mono (by decide)) (K__law_number.mono (by decide))
  have K__law_net := ok__law_net (P := l.prog) (w := w) (base := base) (ex := (exX X_BadNet)) (k := 3) F24 b24 (PySem.W.mg_of X G a24) B (K__law_next.mono (by decide))
  have K_net_of_functions := ok_net_of_functions (P := l.prog) (w := w) (base := base) (ex := (exX X_BadNet)) F9 b9 (PySem.W.mg_of X G a9) B F11 b11 T_Chooser ⟨a11, i11, k11⟩ F10 b10 ⟨mk_Chooser, a10, i10, kc_Chooser⟩ (PySem.W.mg_of X G ca_Chooser)
  have K_uses_of := ok_uses_of (P := l.prog) (w := w) (base := base) (ex := (exX X_BadNet)) (k := 0) F8 b8 (PySem.W.mg_of X G a8) B
  have K_bits_of := ok_bits_of (P := l.prog) (w := w) (base := base) (ex := (exX X_BadNet)) (k := 0) F3 b3 (PySem.W.mg_of X G a3) B
  have K_number_of := ok_number_of (P := l.prog) (w := w) (base := base) (ex := (exX X_BadNet)) (k := 0) F4 b4 (PySem.W.mg_of X G a4) 
  have K_plain_gate := ok_plain_gate (P := l.prog) (w := w) (base := base) (ex := (exX X_BadNet)) (k := 1) F18 b18 (PySem.W.mg_of X G a18) B (K_bits_of.mono (by decide)) (K_number_of.mono (by decide))
  have K_signals_together := ok_signals_together (P := l.prog) (w := w) (base := base) (ex := (exX X_BadNet)) (k := 0) F15 b15 (PySem.W.mg_of X G a15) B
  have K_words_together := ok_words_together (P := l.prog) (w := w) (base := base) (ex := (exX X_BadNet)) (k := 1) F16 b16 (PySem.W.mg_of X G a16) B (K_bits_of.mono (by decide)) (K_number_of.mono (by decide))
  have K_gathered_once := ok_gathered_once (P := l.prog) (w := w) (base := base) (ex := (exX X_BadNet)) (k := 2) F17 b17 (PySem.W.mg_of X G a17) B (K_signals_together.mono (by decide)) (K_words_together.mono (by decide))
  have K_renumbered := ok_renumbered (P := l.prog) (w := w) (base := base) (ex := (exX X_BadNet)) (k := 0) F13 b13 (PySem.W.mg_of X G a13) B
  have K_kept_gates := ok_kept_gates (P := l.prog) (w := w) (base := base) (ex := (exX X_BadNet)) (k := 0) F12 b12 (PySem.W.mg_of X G a12) B
  have K_without_unused := ok_without_unused (P := l.prog) (w := w) (base := base) (ex := (exX X_BadNet)) (k := 1) F14 b14 (PySem.W.mg_of X G a14) (K_renumbered.mono (by decide)) (K_kept_gates.mono (by decide))
  have K_gathered := ok_gathered (P := l.prog) (w := w) (base := base) (ex := (exX X_BadNet)) (k := 3) F19 b19 (PySem.W.mg_of X G a19) B (K_uses_of.mono (by decide)) (K_plain_gate.mono (by decide)) (K_gathered_once.mono (by decide)) (K_without_unused.mono (by decide)) (K_renumbered.mono (by decide))
  have K_check_net := ok_check_net (P := l.prog) (w := w) (base := base) (ex := (exX X_BadNet)) (k := 0) F5 b5 (PySem.W.mg_of X G a5) B TX_BadNet rfl
  have K_levels_of := ok_levels_of (P := l.prog) (w := w) (base := base) (ex := (exX X_BadNet)) (k := 0) F6 b6 (PySem.W.mg_of X G a6) B
  have K_depth_of := ok_depth_of (P := l.prog) (w := w) (base := base) (ex := (exX X_BadNet)) (k := 1) F7 b7 (PySem.W.mg_of X G a7) B (K_levels_of.mono (by decide))
  have K_value_of := ok_value_of (P := l.prog) (w := w) (base := base) (ex := (exX X_BadNet)) (k := 0) F0 b0 (PySem.W.mg_of X G a0) 
  have K_net_values := ok_net_values (P := l.prog) (w := w) (base := base) (ex := (exX X_BadNet)) (k := 1) F1 b1 (PySem.W.mg_of X G a1) (K_value_of.mono (by decide))
  have K_net_told := ok_net_told (P := l.prog) (w := w) (base := base) (ex := (exX X_BadNet)) (k := 2) F2 b2 (PySem.W.mg_of X G a2) B (K_net_values.mono (by decide))
  exact ok_law (P := l.prog) (w := w) (base := base) (ex := (exX X_BadNet)) (k := 7) F25 B nol (K__law_next.mono (by decide)) (K__law_net.mono (by decide)) (K_net_of_functions.mono (by decide)) (K_gathered.mono (by decide)) (K_check_net.mono (by decide)) (K_depth_of.mono (by decide)) (K_net_told.mono (by decide)) (K_bits_of.mono (by decide)) good
end Lk17
open PySem PySem.W PyProof.Rows
set_option maxRecDepth 100000 in
set_option maxHeartbeats 0 in
theorem PySem.Challenge.cw_beatscan_k17_gathered_holds : PySem.Challenge.rw_beatscan_k17_gathered.Holds := by
  w_on; o_law; k_head; (case hw => w_witness2)
  k_fill
  refine L2.walk_of (l := PySem.Challenge.rw_beatscan_k17_gathered) (n := 63) (k := 8) (x := "_law_script") (CX := fun w => L2.CX PySem.Challenge.rw_beatscan_k17_gathered.prog w) (sp := fun w => PD.spLaw _) rfl (by decide) rfl ⟨rfl, by decide, by decide⟩ (fun w h Y => PySem.W.kIn_of Y) ?F (fun _ _ a ns hl _ hS => ⟨a, ns, rfl, hS, hl, fun _ => rfl⟩) (fun _ _ _ _ _ h => by obtain ⟨_, _, _, _, _, _, _, _, _, _, _, _, z⟩ := h; exact z)
  case F =>
    intro w mg fa h KX G hmg
    refine' Lk17.all_mk KX G hmg ?ca_Chooser ?pg_Chooser ?hd_Chooser ?po_Chooser ?sa_Chooser ?mk_Chooser ?kc_Chooser ?nf0_Chooser ?nf1_Chooser ?nf2_Chooser ?a0 ?l0 ?c0 ?k0 ?a1 ?l1 ?c1 ?k1 ?a2 ?l2 ?c2 ?k2 ?a3 ?l3 ?c3 ?k3 ?a4 ?l4 ?c4 ?k4 ?a5 ?l5 ?c5 ?k5 ?a6 ?l6 ?c6 ?k6 ?a7 ?l7 ?c7 ?k7 ?a8 ?l8 ?c8 ?k8 ?a9 ?l9 ?c9 ?k9 ?i10 ?a10 ?l10 ?c10 ?k10 ?i11 ?a11 ?l11 ?c11 ?k11 ?a12 ?l12 ?c12 ?k12 ?a13 ?l13 ?c13 ?k13 ?a14 ?l14 ?c14 ?k14 ?a15 ?l15 ?c15 ?k15 ?a16 ?l16 ?c16 ?k16 ?a17 ?l17 ?c17 ?k17 ?a18 ?l18 ?c18 ?k18 ?a19 ?l19 ?c19 ?k19 ?a20 ?l20 ?c20 ?k20 ?a21 ?l21 ?c21 ?k21 ?a22 ?l22 ?c22 ?k22 ?a23 ?l23 ?c23 ?k23 ?a24 ?l24 ?c24 ?k24 ?a25 ?l25 ?c25 ?k25 ?z_all ?z_dict ?z_enumerate ?z_int ?z_isinstance ?z_len ?z_list ?z_max ?z_range ?z_set ?z_sorted ?z_tuple ?z_zip ?xa_BadNet ?xini_BadNet ?xovr_BadNet ?xsa_BadNet ?xga_BadNet ?xgg_BadNet ?xhd_BadNet ?xno0_BadNet ?xno1_BadNet ?xin_BadNet ?xti_BadNet ?xl_BadNet ?xc_BadNet ?xk_BadNet ?xe_BadNet ?xty_BadNet ?xic_BadNet ?xs_BadNet ?nol Lk17.good
    (case ca_Chooser => k_is); (case pg_Chooser => k_is); (case hd_Chooser => k_is); (case po_Chooser => k_is); (case sa_Chooser => k_is); (case mk_Chooser => k_is); (case kc_Chooser => k_is); (case nf0_Chooser => k_is); (case nf1_Chooser => k_is); (case nf2_Chooser => k_is); (case a0 => k_is); (case l0 => k_is); (case c0 => k_is); (case k0 => k_is); (case a1 => k_is); (case l1 => k_is); (case c1 => k_is); (case k1 => k_is); (case a2 => k_is); (case l2 => k_is); (case c2 => k_is); (case k2 => k_is); (case a3 => k_is); (case l3 => k_is); (case c3 => k_is); (case k3 => k_is); (case a4 => k_is); (case l4 => k_is); (case c4 => k_is); (case k4 => k_is); (case a5 => k_is); (case l5 => k_is); (case c5 => k_is); (case k5 => k_is); (case a6 => k_is); (case l6 => k_is); (case c6 => k_is); (case k6 => k_is); (case a7 => k_is); (case l7 => k_is); (case c7 => k_is); (case k7 => k_is); (case a8 => k_is); (case l8 => k_is); (case c8 => k_is); (case k8 => k_is); (case a9 => k_is); (case l9 => k_is); (case c9 => k_is); (case k9 => k_is); (case i10 => k_is); (case a10 => k_is); (case l10 => k_is); (case c10 => k_is); (case k10 => k_is); (case i11 => k_is); (case a11 => k_is); (case l11 => k_is); (case c11 => k_is); (case k11 => k_is); (case a12 => k_is); (case l12 => k_is); (case c12 => k_is); (case k12 => k_is); (case a13 => k_is); (case l13 => k_is); (case c13 => k_is); (case k13 => k_is); (case a14 => k_is); (case l14 => k_is); (case c14 => k_is); (case k14 => k_is); (case a15 => k_is); (case l15 => k_is); (case c15 => k_is); (case k15 => k_is); (case a16 => k_is); (case l16 => k_is); (case c16 => k_is); (case k16 => k_is); (case a17 => k_is); (case l17 => k_is); (case c17 => k_is); (case k17 => k_is); (case a18 => k_is); (case l18 => k_is); (case c18 => k_is); (case k18 => k_is); (case a19 => k_is); (case l19 => k_is); (case c19 => k_is); (case k19 => k_is); (case a20 => k_is); (case l20 => k_is); (case c20 => k_is); (case k20 => k_is); (case a21 => k_is); (case l21 => k_is); (case c21 => k_is); (case k21 => k_is); (case a22 => k_is); (case l22 => k_is); (case c22 => k_is); (case k22 => k_is); (case a23 => k_is); (case l23 => k_is); (case c23 => k_is); (case k23 => k_is); (case a24 => k_is); (case l24 => k_is); (case c24 => k_is); (case k24 => k_is); (case a25 => k_is); (case l25 => k_is); (case c25 => k_is); (case k25 => k_is); (case z_all => k_is); (case z_dict => k_is); (case z_enumerate => k_is); (case z_int => k_is); (case z_isinstance => k_is); (case z_len => k_is); (case z_list => k_is); (case z_max => k_is); (case z_range => k_is); (case z_set => k_is); (case z_sorted => k_is); (case z_tuple => k_is); (case z_zip => k_is); (case xa_BadNet => k_is); (case xini_BadNet => kernel_rfl); (case xovr_BadNet => kernel_rfl); (case xsa_BadNet => k_is); (case xga_BadNet => k_is); (case xgg_BadNet => k_is); (case xhd_BadNet => k_is); (case xno0_BadNet => k_is); (case xno1_BadNet => k_is); (case xin_BadNet => k_is); (case xti_BadNet => k_is); (case xl_BadNet => k_is); (case xc_BadNet => k_is); (case xk_BadNet => k_is); (case xe_BadNet => k_is); (case xty_BadNet => k_is); (case xic_BadNet => k_is); (case xs_BadNet => k_is)
    (case nol => exact PD.noL_of (by kernel_rfl))

