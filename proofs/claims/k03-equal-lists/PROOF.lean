import PyProof.Rows.All
import Wide.All
import OpenK.AllK
import Wide.FinOn
import HandS.ForMost
import HandS.ForExc
import HandS.Walk
import HandS.Deep
import HandS.Defaults
import HandS.CallSlots
import HandS.Star
import HandS.TupAny
import HandS.RaiseMore
import HandS.IsInst
import KE.DataEq
import KE.DataFind
import KE.DatumIndex
import KE.GoesMore
import PyProof.ReprRoads
import HandS.FStr
import HandS.MapJoin
import HandS.Property
import HandS.ClsMeth
import HandS.HeadHook1
import HandS.SortRule
import HandS.Style
import HandS.Exc
import HandS.Text
import HandS.Codes
import KE.SortData
import KE.SortKeyHeap
import KE.KxText
import HandS.Head0
import HandS.Head1
import HandS.Head2
import HandS.HeadEnd
import HandS.HeadHook2
import HandS.HeadNt
import HandS.Ends
import HandS.SetFor
import HandS.Strs
import HandS.DictTup
import KE.KDictPairs
import HandS.ListItems
import HandS.TupSets
import PyProof.CallFns
import HandS.SortKw
import KE.KSortKey
import HandS.TryMany
import KE.KFmtOwn
import PyProof.InstNe
import HandS.Conv
import KE.KeyNested
import KE.DataMinMax
import HandS.GenList
import HandS.Zip
import PyProof.EqKinds
import PySem.Challenge.RW_closestrule_k03_equal_lists
set_option Elab.async false
set_option linter.all false
set_option maxRecDepth 100000
set_option maxHeartbeats 0
/-! DL1: data by value over the abstract heap: Dd, Rep, the mutable store, the lowering of readings. -/
namespace DL
open PySem PySem.Spec PyProof.Rows L2
/-- data by value; raw: anything else, as it is (a mutable thing by its address, a class, a def) -/
inductive Dd where
  | non | bl (b : Bool) | int (i : Int) | str (x : Str)
  | lst (xs : List Dd) | tup (xs : List Dd)
  /-- a tuple of which its items are known alone; tup: one without a dict -/
  | utp (xs : List Dd)
  | ins (C : Addr) (ks : List Str) (xs : List Dd)
  | dic (ks : List Key) (xs : List Dd)
  /-- the law's script -/
  | scr (K : PySem.W.Frag) (ns : List Int)
  | raw (v : V)
mutual
inductive Rep (H : Hp) : V → Dd → Prop
  | non : Rep H .non .non
  | bl (b : Bool) : Rep H (.bl b) (.bl b)
  | int (i : Int) : Rep H (.int i) (.int i)
  | str (x : Str) : Rep H (.str x) (.str x)
  | lst {a : Addr} {xs : List V} {ds : List Dd} : H a = some (.lst xs) → RepAll H xs ds → Rep H (.ref a) (.lst ds)
  | utp {a : Addr} {xs : List V} {ds : List Dd} : Rd H a (.tup xs) → RepAll H xs ds → Rep H (.ref a) (.utp ds)
  | tup {a : Addr} {o : Obj} {xs : List V} {ds : List Dd} : H a = some (.frz o (.tup xs)) → o.dict = none → RepAll H xs ds → Rep H (.ref a) (.tup ds)
  | ins {a C dx : Addr} {fs : List (Str × V)} {ks : List Str} {ds : List Dd} : H a = some (.ins C dx fs) → fs.map (·.1) = ks → RepAll H (fs.map (·.2)) ds → Rep H (.ref a) (.ins C ks ds)
  | dic {a : Addr} {kvs : List (Key × V)} {ks : List Key} {ds : List Dd} : H a = some (.dK kvs) → kvs.map (·.1) = ks → RepAll H (kvs.map (·.2)) ds → Rep H (.ref a) (.dic ks ds)
  | scr {a : Addr} {K : PySem.W.Frag} {ns : List Int} : SqL K H a (ns.map V.int) → Rep H (.ref a) (.scr K ns)
  | raw (v : V) : Rep H v (.raw v)
inductive RepAll (H : Hp) : List V → List Dd → Prop
  | nil : RepAll H [] []
  | cons {v : V} {vs : List V} {d : Dd} {ds : List Dd} : Rep H v d → RepAll H vs ds → RepAll H (v :: vs) (d :: ds)
end
theorem rd_mono {H H' : Hp} {a : Addr} {u : HO} (e : Same H H') (h : Rd H a u) : Rd H' a u := by
  rcases h with h | ⟨o, h⟩
  · exact .inl (e _ _ h)
  · exact .inr ⟨o, e _ _ h⟩
theorem sqL_mono {K : PySem.W.Frag} {H H' : Hp} {a : Addr} {xs : List V} (e : Same H H') (h : SqL K H a xs) : SqL K H' a xs := h.elim (fun z => .inl (rd_mono e z)) .inr
mutual
theorem Rep.mono {H H' : Hp} (e : Same H H') : ∀ {d : Dd} {v : V}, Rep H v d → Rep H' v d
  | .non, _, .non => .non
  | .bl _, _, .bl _ => .bl _
  | .int _, _, .int _ => .int _
  | .str _, _, .str _ => .str _
  | .lst ds, _, .lst h r => .lst (e _ _ h) (RepAll.mono e r)
  | .utp ds, _, .utp h r => .utp (rd_mono e h) (RepAll.mono e r)
  | .tup ds, _, .tup h k r => .tup (e _ _ h) k (RepAll.mono e r)
  | .ins _ _ ds, _, .ins h k r => .ins (e _ _ h) k (RepAll.mono e r)
  | .dic _ ds, _, .dic h k r => .dic (e _ _ h) k (RepAll.mono e r)
  | .scr _ _, _, .scr h => .scr (sqL_mono e h)
  | .raw _, _, .raw _ => .raw _
theorem RepAll.mono {H H' : Hp} (e : Same H H') : ∀ {ds : List Dd} {vs : List V}, RepAll H vs ds → RepAll H' vs ds
  | [], _, .nil => .nil
  | _ :: _, _, .cons h r => .cons (Rep.mono e h) (RepAll.mono e r)
end
theorem RepAll.length {H : Hp} : ∀ {ds : List Dd} {vs : List V}, RepAll H vs ds → vs.length = ds.length
  | [], _, .nil => rfl
  | _ :: _, _, .cons _ r => congrArg Nat.succ (RepAll.length r)
theorem RepAll.append {H : Hp} : ∀ {ds es : List Dd} {vs ws : List V}, RepAll H vs ds → RepAll H ws es → RepAll H (vs ++ ws) (ds ++ es)
  | [], _, _, _, .nil, s => s
  | _ :: _, _, _, _, .cons h r, s => .cons h (RepAll.append r s)
theorem RepAll.get {H : Hp} : ∀ {ds : List Dd} {vs : List V} {i : Nat} {v : V}, RepAll H vs ds → vs[i]? = some v → ∃ d, ds[i]? = some d ∧ Rep H v d
  | [], _, _, _, .nil, e => by simp at e
  | _ :: _, _, 0, _, .cons h _, e => by simp at e; subst e; exact ⟨_, rfl, h⟩
  | _ :: _, _, i + 1, _, .cons _ r, e => RepAll.get (i := i) r (by simpa using e)
theorem RepAll.getD {H : Hp} : ∀ {ds : List Dd} {vs : List V} {i : Nat} {d : Dd}, RepAll H vs ds → ds[i]? = some d → ∃ v, vs[i]? = some v ∧ Rep H v d
  | [], _, _, _, .nil, e => by simp at e
  | _ :: _, _, 0, _, .cons h _, e => by simp at e; subst e; exact ⟨_, rfl, h⟩
  | _ :: _, _, i + 1, _, .cons _ r, e => RepAll.getD (i := i) r (by simpa using e)
theorem RepAll.take {H : Hp} : ∀ {ds : List Dd} {vs : List V} (n : Nat), RepAll H vs ds → RepAll H (vs.take n) (ds.take n)
  | _, _, 0, _ => .nil
  | [], _, _ + 1, .nil => .nil
  | _ :: _, _, n + 1, .cons h r => .cons h (RepAll.take n r)
theorem RepAll.drop {H : Hp} : ∀ {ds : List Dd} {vs : List V} (n : Nat), RepAll H vs ds → RepAll H (vs.drop n) (ds.drop n)
  | _, _, 0, r => r
  | [], _, _ + 1, .nil => .nil
  | _ :: _, _, n + 1, .cons _ r => RepAll.drop n r
theorem RepAll.set {H : Hp} {v : V} {d : Dd} (q : Rep H v d) : ∀ {ds : List Dd} {vs : List V} (i : Nat), RepAll H vs ds → RepAll H (vs.set i v) (ds.set i d)
  | [], _, _, .nil => .nil
  | _ :: _, _, 0, .cons _ r => .cons q r
  | _ :: _, _, i + 1, .cons h r => .cons h (RepAll.set q i r)
/-! ### the mutable store -/
inductive MO where
  | lst (ds : List Dd)
  | ins (C : Addr) (ks : List Str) (ds : List Dd)
abbrev MS := Addr → Option MO
def MObj (Hf H : Hp) (a : Addr) : MO → Prop
  | .lst ds => ∃ xs, H a = some (.lst xs) ∧ RepAll Hf xs ds
  | .ins C ks ds => ∃ dx fs, H a = some (.ins C dx fs) ∧ fs.map (·.1) = ks ∧ RepAll Hf (fs.map (·.2)) ds
theorem MObj.mono {Hf Hf' H H' : Hp} {a : Addr} {mo : MO} (e : Same Hf Hf') (k : ∀ o, H a = some o → H' a = some o) (h : MObj Hf H a mo) : MObj Hf' H' a mo := by
  cases mo with
  | lst ds => obtain ⟨xs, h1, r⟩ := h; exact ⟨xs, k _ h1, r.mono e⟩
  | ins C ks ds => obtain ⟨dx, fs, h1, h2, r⟩ := h; exact ⟨dx, fs, k _ h1, h2, r.mono e⟩
theorem MObj.there {Hf H : Hp} {a : Addr} {mo : MO} (h : MObj Hf H a mo) : ∃ o, H a = some o := by
  cases mo with
  | lst ds => obtain ⟨xs, h1, r⟩ := h; exact ⟨_, h1⟩
  | ins C ks ds => obtain ⟨dx, fs, h1, h2, r⟩ := h; exact ⟨_, h1⟩
/-- Hf: what is frozen; M: what may change; the rest of H is not known of -/
structure Wd (Hf : Hp) (M : MS) (H : Hp) : Prop where
  fz : ∀ a o, Hf a = some o → H a = some o ∧ M a = none
  ok : ∀ a mo, M a = some mo → MObj Hf H a mo
theorem Wd.le {Hf H : Hp} {M : MS} (w : Wd Hf M H) : Same Hf H := fun a o e => (w.fz a o e).1
theorem Wd.free {Hf H : Hp} {M : MS} {a : Addr} (w : Wd Hf M H) (h : H a = none) : M a = none ∧ Hf a = none := by
  constructor
  · cases q : M a with
    | none => rfl
    | some mo => obtain ⟨o, e⟩ := (w.ok a mo q).there; rw [h] at e; cases e
  · cases q : Hf a with
    | none => rfl
    | some o => have := w.le a o q; rw [h] at this; cases this
/-- new things, frozen -/
structure Grow (Hf H Hf' H' : Hp) : Prop where
  up : Same H H'
  fz : Same Hf Hf'
  le : Same Hf' H'
  new : ∀ a o, Hf' a = some o → Hf a = none → H a = none
theorem Grow.refl {Hf H : Hp} (l : Same Hf H) : Grow Hf H Hf H := ⟨Same.refl _, Same.refl _, l, fun a o h1 h2 => by rw [h1] at h2; cases h2⟩
theorem Grow.trans {Hf H Hf1 H1 Hf2 H2 : Hp} (a : Grow Hf H Hf1 H1) (b : Grow Hf1 H1 Hf2 H2) : Grow Hf H Hf2 H2 :=
  ⟨a.up.trans b.up, a.fz.trans b.fz, b.le, fun x o h1 h2 => by
    cases q : Hf1 x with
    | some u => exact a.new x u q h2
    | none => exact a.up.free (b.new x o h1 q)⟩
theorem same_new {H : Hp} {p : Addr} {o : HO} (h : H p = none) : Same H (upd H p o) := fun b x e => by
  rw [upd_ne (ne_of_none e h)]
  exact e
theorem Grow.one {Hf H : Hp} {p : Addr} {o : HO} (l : Same Hf H) (h : H p = none) : Grow Hf H (upd Hf p o) (upd H p o) := by
  have hf : Hf p = none := l.free h
  refine ⟨same_new h, same_new hf, fun a u e => ?_, fun a u e n => ?_⟩
  · by_cases q : a = p
    · subst q; rw [upd_same] at e ⊢; exact e
    · rw [upd_ne q] at e ⊢; exact l _ _ e
  · by_cases q : a = p
    · subst q; exact h
    · rw [upd_ne q, n] at e; cases e
/-- from one state to another: what is frozen stays, the store is told, what is not known of stays as it is -/
structure Stp (Hf : Hp) (M : MS) (H : Hp) (Hf' : Hp) (M' : MS) (H' : Hp) : Prop where
  up : Same Hf Hf'
  wd : Wd Hf' M' H'
  fr : ∀ a o, Hf a = none → M a = none → H a = some o → H' a = some o ∧ Hf' a = none ∧ M' a = none
section
variable {Hf H Hf1 H1 Hf2 H2 : Hp} {M M1 M2 : MS} {p : Addr}
theorem Stp.refl (w : Wd Hf M H) : Stp Hf M H Hf M H := ⟨Same.refl _, w, fun _ _ h1 h2 h3 => ⟨h3, h1, h2⟩⟩
theorem Stp.trans (a : Stp Hf M H Hf1 M1 H1) (b : Stp Hf1 M1 H1 Hf2 M2 H2) : Stp Hf M H Hf2 M2 H2 := ⟨a.up.trans b.up, b.wd, fun x o h1 h2 h3 => by
  obtain ⟨q1, q2, q3⟩ := a.fr x o h1 h2 h3
  exact b.fr x o q2 q3 q1⟩
theorem Stp.grow (w : Wd Hf M H) (g : Grow Hf H Hf1 H1) : Stp Hf M H Hf1 M H1 := by
  refine ⟨g.fz, ⟨fun a o e => ⟨g.le _ _ e, ?_⟩, fun a mo e => (w.ok a mo e).mono g.fz fun o q => g.up _ _ q⟩, fun a o h1 h2 h3 => ⟨g.up _ _ h3, ?_, h2⟩⟩
  · cases q : Hf a with
    | some u => exact (w.fz a u q).2
    | none => exact (w.free (g.new a o e q)).1
  · cases q : Hf1 a with
    | none => rfl
    | some u => rw [g.new a u q h1] at h3; cases h3
def updM (M : MS) (a : Addr) (o : MO) : MS := fun b => if b = a then some o else M b
def delM (M : MS) (a : Addr) : MS := fun b => if b = a then none else M b
theorem updM_same {a : Addr} {o : MO} : updM M a o a = some o := by unfold updM; rw [if_pos rfl]
theorem updM_ne {a b : Addr} {o : MO} (h : b ≠ a) : updM M a o b = M b := by unfold updM; rw [if_neg h]
theorem delM_same {a : Addr} : delM M a a = none := by unfold delM; rw [if_pos rfl]
theorem delM_ne {a b : Addr} (h : b ≠ a) : delM M a b = M b := by unfold delM; rw [if_neg h]
theorem updM_updM {a : Addr} {o u : MO} : updM (updM M a o) a u = updM M a u := by
  funext b; unfold updM; split <;> rfl
theorem updM_id {a : Addr} {o : MO} (h : M a = some o) : updM M a o = M := by
  funext b; unfold updM
  by_cases e : b = a
  · rw [if_pos e, e, h]
  · rw [if_neg e]
theorem delM_updM {a : Addr} {o : MO} (h : M a = none) : delM (updM M a o) a = M := by
  funext b; unfold delM updM
  by_cases e : b = a
  · rw [if_pos e, e, h]
  · rw [if_neg e, if_neg e]
theorem delM_updM_ne {a b : Addr} {o : MO} (h : a ≠ b) : delM (updM M a o) b = updM (delM M b) a o := by
  funext c
  by_cases e : c = b
  · rw [e, delM_same, updM_ne (Ne.symm h), delM_same]
  · rw [delM_ne e]
    by_cases q : c = a
    · rw [q, updM_same, updM_same]
    · rw [updM_ne q, updM_ne q, delM_ne e]
theorem updM_comm {a b : Addr} {o u : MO} (h : a ≠ b) : updM (updM M a o) b u = updM (updM M b u) a o := by
  funext c
  by_cases e : c = b
  · rw [e, updM_same, updM_ne (Ne.symm h), updM_same]
  · rw [updM_ne e]
    by_cases q : c = a
    · rw [q, updM_same, updM_same]
    · rw [updM_ne q, updM_ne q, updM_ne e]
/-- a place that the store has, or a new one, is written -/
theorem Stp.write {u : HO} {mo : MO} (w : Wd Hf M H) (h : (∃ o, M p = some o) ∨ H p = none) (new : MObj Hf (upd H p u) p mo) : Stp Hf M H Hf (updM M p mo) (upd H p u) := by
  have hf : Hf p = none := by
    cases q : Hf p with
    | none => rfl
    | some o =>
      obtain ⟨e1, e2⟩ := w.fz p o q
      rcases h with ⟨o', h⟩ | h
      · rw [e2] at h; cases h
      · rw [e1] at h; cases h
  refine ⟨Same.refl _, ⟨fun a o e => ?_, fun a o e => ?_⟩, fun a o h1 h2 h3 => ?_⟩
  · have ne : a ≠ p := ne_of_none e hf
    rw [upd_ne ne, updM_ne ne]
    exact w.fz a o e
  · by_cases q : a = p
    · subst q
      rw [updM_same] at e
      cases e
      exact new
    · rw [updM_ne q] at e
      exact (w.ok a o e).mono (Same.refl _) fun o z => by rw [upd_ne q]; exact z
  · have ne : a ≠ p := fun q => by
      subst q
      rcases h with ⟨o', h⟩ | h
      · rw [h2] at h; cases h
      · rw [h3] at h; cases h
    rw [upd_ne ne, updM_ne ne]
    exact ⟨h3, h1, h2⟩
/-- the data that a mutable thing is -/
def MO.dd : MO → Dd
  | .lst ds => .lst ds
  | .ins C ks ds => .ins C ks ds
theorem MObj.rep {a : Addr} {mo : MO} (h : MObj Hf H a mo) (e : Same Hf H) : Rep H (.ref a) mo.dd := by
  cases mo with
  | lst ds => obtain ⟨xs, h1, r⟩ := h; exact .lst h1 (r.mono e)
  | ins C ks ds => obtain ⟨dx, fs, h1, h2, r⟩ := h; exact .ins h1 h2 (r.mono e)
/-- what is mutable becomes data -/
theorem Stp.freeze {mo : MO} (w : Wd Hf M H) (h : M p = some mo) : ∃ Hf', Stp Hf M H Hf' (delM M p) H ∧ Rep Hf' (.ref p) mo.dd := by
  obtain ⟨u, hu⟩ := (w.ok p mo h).there
  have hf : Hf p = none := by
    cases q : Hf p with
    | none => rfl
    | some o => obtain ⟨_, e2⟩ := w.fz p o q; rw [h] at e2; cases e2
  have sm : Same Hf (upd Hf p u) := same_new hf
  refine ⟨upd Hf p u, ⟨sm, ⟨fun a o e => ?_, fun a o e => ?_⟩, fun a o h1 h2 h3 => ?_⟩, ?_⟩
  · by_cases q : a = p
    · subst q
      rw [upd_same] at e
      cases e
      exact ⟨hu, delM_same⟩
    · rw [upd_ne q] at e
      rw [delM_ne q]
      exact w.fz a o e
  · by_cases q : a = p
    · subst q
      rw [delM_same] at e
      cases e
    · rw [delM_ne q] at e
      exact (w.ok a o e).mono sm fun o z => z
  · have ne : a ≠ p := fun q => by
      subst q
      rw [h2] at h
      cases h
    rw [upd_ne ne, delM_ne ne]
    exact ⟨h3, h1, h2⟩
  · have q := w.ok p mo h
    cases mo with
    | lst ds => obtain ⟨xs, h1, r⟩ := q; rw [hu] at h1; cases h1; exact .lst upd_same (r.mono sm)
    | ins C ks ds => obtain ⟨dx, fs, h1, h2, r⟩ := q; rw [hu] at h1; cases h1; exact .ins upd_same h2 (r.mono sm)
end
/-- a mutable thing read as data -/
def der (M : MS) : Dd → Dd
  | .raw (.ref a) => (match M a with
    | some mo => mo.dd
    | none => .raw (.ref a))
  | d => d
/-- d as it is read at the top: its parts are frozen -/
inductive RepT (Hf : Hp) (M : MS) (H : Hp) : V → Dd → Prop
  | fz {v : V} {d : Dd} : Rep Hf v d → RepT Hf M H v d
  | mu {a : Addr} {mo : MO} : M a = some mo → MObj Hf H a mo → RepT Hf M H (.ref a) mo.dd
theorem RepT.of {Hf : Hp} {M : MS} {H : Hp} {v : V} {d : Dd} (w : Wd Hf M H) (h : Rep Hf v d) : RepT Hf M H v (der M d) := by
  cases h with
  | raw v =>
    cases v with
    | ref a =>
      cases q : M a with
      | none =>
        have e : der M (.raw (.ref a)) = .raw (.ref a) := by simp [der, q]
        rw [e]
        exact .fz (.raw _)
      | some mo =>
        have e : der M (.raw (.ref a)) = mo.dd := by simp [der, q]
        rw [e]
        exact .mu q (w.ok a mo q)
    | _ => exact .fz (.raw _)
  | non => exact .fz .non
  | bl b => exact .fz (.bl b)
  | int i => exact .fz (.int i)
  | str x => exact .fz (.str x)
  | lst h r => exact .fz (.lst h r)
  | utp h r => exact .fz (.utp h r)
  | tup h k r => exact .fz (.tup h k r)
  | ins h k r => exact .fz (.ins h k r)
  | dic h k r => exact .fz (.dic h k r)
  | scr h => exact .fz (.scr h)
section
variable {Hf : Hp} {M : MS} {H : Hp} {v : V}
theorem RepT.non (h : RepT Hf M H v .non) : v = .non := by
  generalize e : Dd.non = d at h
  cases h with
  | fz h => subst e; cases h; rfl
  | @mu a mo _ _ => cases mo <;> cases e
theorem RepT.bl {b : Bool} (h : RepT Hf M H v (.bl b)) : v = .bl b := by
  generalize e : Dd.bl b = d at h
  cases h with
  | fz h => subst e; cases h; rfl
  | @mu a mo _ _ => cases mo <;> cases e
theorem RepT.int {i : Int} (h : RepT Hf M H v (.int i)) : v = .int i := by
  generalize e : Dd.int i = d at h
  cases h with
  | fz h => subst e; cases h; rfl
  | @mu a mo _ _ => cases mo <;> cases e
theorem RepT.str {x : Str} (h : RepT Hf M H v (.str x)) : v = .str x := by
  generalize e : Dd.str x = d at h
  cases h with
  | fz h => subst e; cases h; rfl
  | @mu a mo _ _ => cases mo <;> cases e
theorem RepT.lst {ds : List Dd} (l : Same Hf H) (h : RepT Hf M H v (.lst ds)) : ∃ a xs, v = .ref a ∧ H a = some (.lst xs) ∧ RepAll Hf xs ds := by
  generalize e : Dd.lst ds = d at h
  cases h with
  | fz h => subst e; cases h with | lst h r => exact ⟨_, _, rfl, l _ _ h, r⟩
  | @mu a mo _ h =>
    cases mo with
    | lst es => cases e; obtain ⟨xs, h1, r⟩ := h; exact ⟨a, xs, rfl, h1, r⟩
    | _ => cases e
theorem RepT.tupF {ds : List Dd} (h : RepT Hf M H v (.tup ds)) : Rep Hf v (.tup ds) := by
  generalize e : Dd.tup ds = d at h
  cases h with
  | fz h => exact h
  | @mu a mo _ _ => cases mo <;> cases e
theorem RepT.tup {ds : List Dd} (h : RepT Hf M H v (.tup ds)) : ∃ a xs, v = .ref a ∧ Rd Hf a (.tup xs) ∧ RepAll Hf xs ds := by
  have q := h.tupF
  cases q with
  | tup hq _ rq => exact ⟨_, _, rfl, .inr ⟨_, hq⟩, rq⟩
theorem RepT.tupO {ds : List Dd} (h : RepT Hf M H v (.tup ds)) : ∃ a o xs, v = .ref a ∧ Hf a = some (.frz o (.tup xs)) ∧ o.dict = none ∧ RepAll Hf xs ds := by
  have q := h.tupF
  cases q with
  | tup hq hk rq => exact ⟨_, _, _, rfl, hq, hk, rq⟩
theorem RepT.ins {C : Addr} {ks : List Str} {ds : List Dd} (l : Same Hf H) (h : RepT Hf M H v (.ins C ks ds)) : ∃ a dx fs, v = .ref a ∧ H a = some (.ins C dx fs) ∧ fs.map (·.1) = ks ∧ RepAll Hf (fs.map (·.2)) ds := by
  generalize e : Dd.ins C ks ds = d at h
  cases h with
  | fz h => subst e; cases h with | ins h k r => exact ⟨_, _, _, rfl, l _ _ h, k, r⟩
  | @mu a mo _ h =>
    cases mo with
    | ins C' ks' es => cases e; obtain ⟨dx, fs, h1, h2, r⟩ := h; exact ⟨a, dx, fs, rfl, h1, h2, r⟩
    | _ => cases e
theorem RepT.dic {ks : List Key} {ds : List Dd} (l : Same Hf H) (h : RepT Hf M H v (.dic ks ds)) : ∃ a kvs, v = .ref a ∧ H a = some (.dK kvs) ∧ kvs.map (·.1) = ks ∧ RepAll Hf (kvs.map (·.2)) ds := by
  generalize e : Dd.dic ks ds = d at h
  cases h with
  | fz h => subst e; cases h with | dic h k r => exact ⟨_, _, rfl, l _ _ h, k, r⟩
  | @mu a mo _ h => cases mo <;> cases e
theorem RepT.rep {d : Dd} (l : Same Hf H) (h : RepT Hf M H v d) : Rep H v d := by
  cases h with
  | fz h => exact h.mono l
  | mu q h => exact h.rep l
end
end DL
/-! DL2: readings by data, lowered to the layer's readings; expressions, tests, statements. -/
namespace DL
open PySem PySem.Spec PyProof.Rows L2
abbrev DS := List (Option Dd)
structure Rl (sl : DS) (Hf : Hp) (M : MS) (σ : L2.St) (H : Hp) : Prop where
  len : sl.length = σ.length
  at_ : ∀ (i : Nat) (d : Dd), sl[i]? = some (some d) → ∃ v, σ[i]? = some (some v) ∧ Rep Hf v d
  wd : Wd Hf M H
theorem Rl.step {sl : DS} {Hf Hf' : Hp} {M M' : MS} {σ : L2.St} {H H' : Hp} (r : Rl sl Hf M σ H) (s : Stp Hf M H Hf' M' H') : Rl sl Hf' M' σ H' :=
  ⟨r.len, fun i d e => let ⟨v, h1, h2⟩ := r.at_ i d e; ⟨v, h1, h2.mono s.up⟩, s.wd⟩
theorem Rl.set {sl : DS} {Hf : Hp} {M : MS} {σ : L2.St} {H : Hp} (r : Rl sl Hf M σ H) (i : Nat) {v : V} {d : Dd} (h : Rep Hf v d) : Rl (sl.set i (some d)) Hf M (σ.set i (some v)) H := by
  refine ⟨by rw [List.length_set, List.length_set, r.len], fun j e q => ?_, r.wd⟩
  by_cases hj : i = j
  · subst hj
    by_cases hi : i < sl.length
    · rw [List.getElem?_set_self hi] at q
      cases q
      exact ⟨v, List.getElem?_set_self (by rw [← r.len]; exact hi), h⟩
    · rw [List.getElem?_eq_none (by simpa using hi)] at q
      cases q
  · rw [List.getElem?_set_ne hj] at q
    obtain ⟨w, h1, h2⟩ := r.at_ j e q
    exact ⟨w, by rw [List.getElem?_set_ne hj]; exact h1, h2⟩
/-- a slot's word may be changed to another that its value bears -/
theorem Rl.re {sl : DS} {Hf : Hp} {M : MS} {σ : L2.St} {H : Hp} (r : Rl sl Hf M σ H) (i : Nat) {d d' : Dd} (hd : sl[i]? = some (some d)) (h : ∀ v, Rep Hf v d → Rep Hf v d') : Rl (sl.set i (some d')) Hf M σ H := by
  refine ⟨by rw [List.length_set, r.len], fun j e q => ?_, r.wd⟩
  by_cases hj : i = j
  · subst hj
    obtain ⟨hlt, _⟩ := List.getElem?_eq_some_iff.mp hd
    rw [List.getElem?_set_self hlt] at q
    cases q
    obtain ⟨v, h1, h2⟩ := r.at_ i d hd
    exact ⟨v, h1, h v h2⟩
  · rw [List.getElem?_set_ne hj] at q
    exact r.at_ j e q
abbrev QD := Dd → MS → Prop
abbrev XD := Value → MS → Prop
abbrev WE := DS → MS → QD → XD → Prop
abbrev WT := DS → MS → (Bool → MS → Prop) → XD → Prop
abbrev WA := DS → MS → (List Dd → MS → Prop) → XD → Prop
def low (W : WX) (w : WE) : TE := fun σ H Q => ∃ sl Hf M Qd Xd, Rl sl Hf M σ H ∧ w sl M Qd Xd ∧
  (∀ d Hf' M' v H', Stp Hf M H Hf' M' H' → Rep Hf' v d → Qd d M' → Q v H') ∧ (∀ c Hf' M' H', Stp Hf M H Hf' M' H' → Xd c M' → W c none σ H')
def lowT (W : WX) (w : WT) : TT := fun σ H Q => ∃ sl Hf M Qd Xd, Rl sl Hf M σ H ∧ w sl M Qd Xd ∧
  (∀ d Hf' M' H', Stp Hf M H Hf' M' H' → Qd d M' → Q d H') ∧ (∀ c Hf' M' H', Stp Hf M H Hf' M' H' → Xd c M' → W c none σ H')
def lowA (W : WX) (w : WA) : TA := fun σ H Q => ∃ sl Hf M Qd Xd, Rl sl Hf M σ H ∧ w sl M Qd Xd ∧
  (∀ ds Hf' M' vs H', Stp Hf M H Hf' M' H' → RepAll Hf' vs ds → Qd ds M' → Q vs H') ∧ (∀ c Hf' M' H', Stp Hf M H Hf' M' H' → Xd c M' → W c none σ H')
section
variable {X : Cx} {W : WX} {e a b c : Expr} {es : List Expr} {pos : Pos}
theorem PE.imp {t t' : TE} (h : PE X e t) (q : ∀ σ H Q, t' σ H Q → t σ H Q) : PE X e t' := ⟨fun pins s σ H Q I z => h.run pins s σ H Q I (q σ H Q z)⟩
theorem PT.imp {t t' : TT} (h : PT X e t) (q : ∀ σ H Q, t' σ H Q → t σ H Q) : PT X e t' := ⟨fun pins s σ H Q I z => h.run pins s σ H Q I (q σ H Q z)⟩
theorem PW.imp {t t' : TT} (h : PW X e t) (q : ∀ σ H Q, t' σ H Q → t σ H Q) : PW X e t' := ⟨fun wh pins s σ H Q I z => h.run wh pins s σ H Q I (q σ H Q z)⟩
theorem PA.imp {t t' : TA} (h : PA X es t) (q : ∀ σ H Q, t' σ H Q → t σ H Q) : PA X es t' := ⟨fun pos pins s σ H Q I z => h.run pos pins s σ H Q I (q σ H Q z)⟩
/-! ### names, constants -/
def wVar (i : Nat) : WE := fun sl M Q _ => ∃ d, sl[i]? = some (some d) ∧ Q d M
def wC (d : Dd) : WE := fun _ M Q _ => Q d M
theorem low_c {d : Dd} {v : V} (h : ∀ H, Rep H v d) : ∀ σ H Q, low W (wC d) σ H Q → tC v σ H Q := fun σ H Q ⟨sl, Hf, M, Qd, Xd, r, w, k, _⟩ => k d Hf M v H (Stp.refl r.wd) (h _) w
theorem d_var (i : Nat) {x : Str} {pos : Pos} (hN : X.N[i]? = some x := by rfl) (hv : Vis X.env.scope x := by first | exact Or.inl rfl | exact Or.inr (Or.inl rfl) | exact Or.inr (Or.inr rfl)) (hd : (x == ("__debug__" : Str)) = false := by decide)
    (hcd : (x == ("__classdict__" : Str)) = false := by decide) : PE X (.Name x pos) (low W (wVar i)) :=
  PE.imp (pe_var hN hv hd hcd) fun σ H Q ⟨sl, Hf, M, Qd, Xd, r, ⟨d, hd, w⟩, k, _⟩ => let ⟨v, h1, h2⟩ := r.at_ i d hd; ⟨v, h1, k d Hf M v H (Stp.refl r.wd) h2 w⟩
theorem d_int {i j pos} : PE X (.Constant (.int i) j pos) (low W (wC (.int i))) := PE.imp pe_int (low_c fun _ => .int i)
theorem d_bl {b j pos} : PE X (.Constant (.bool b) j pos) (low W (wC (.bl b))) := PE.imp pe_bl (low_c fun _ => .bl b)
theorem d_non {j pos} : PE X (.Constant .none j pos) (low W (wC .non)) := PE.imp pe_non (low_c fun _ => .non)
theorem d_str {x j pos} : PE X (.Constant (.str x) j pos) (low W (wC (.str x))) := PE.imp pe_str (low_c fun _ => .str x)
/-- a module's name -/
theorem d_glob {x : Str} {v : V} {u : Value} {d : Dd} {pos : Pos} (hg : Gl X x) (hm : X.mg x = some u) (r : RelV v u) (h : ∀ H, Rep H v d) (hd : (x == ("__debug__" : Str)) = false := by decide) : PE X (.Name x pos) (low W (wC d)) := PE.imp (pe_glob hg hm r hd) (low_c h)
theorem d_bltn {x : Str} {v : V} {u : Value} {d : Dd} {pos : Pos} (hg : Gl X x) (hm : X.mg x = none) (hv : bootBuiltins x = some u) (r : RelV v u) (h : ∀ H, Rep H v d) (hn : x ≠ "__name__" := by decide) (hd : (x == ("__debug__" : Str)) = false := by decide) : PE X (.Name x pos) (low W (wC d)) :=
  PE.imp (pe_bltn hg hm hv r hn hd) (low_c h)
/-! ### two-place operations -/
def OpG (X : Cx) (f : Value → Value → Sem Value) (g : Dd → Dd → Option Dd) : Prop := ∃ r : R2, OpR X f r ∧ ∀ (Hf : Hp) (M : MS) (H : Hp) (x y : V) (d e z : Dd) (Q : VK), Wd Hf M H → RepT Hf M H x d → RepT Hf M H y e → g d e = some z →
  (∀ v Hf' H', Grow Hf H Hf' H' → Rep Hf' v z → Q v H') → r x y H Q
def gOr (g g' : Dd → Dd → Option Dd) : Dd → Dd → Option Dd := fun d e => match g d e with
  | some z => some z
  | none => g' d e
theorem OpG.or {f : Value → Value → Sem Value} {g g' : Dd → Dd → Option Dd} (h : OpG X f g) (h' : OpG X f g') : OpG X f (gOr g g') := by
  obtain ⟨r, o, k⟩ := h
  obtain ⟨r', o', k'⟩ := h'
  refine ⟨_, OpR.or o o', fun Hf M H x y d e z Q m hx hy hz q => ?_⟩
  unfold gOr at hz
  cases hg : g d e with
  | some z' =>
    rw [hg] at hz
    cases hz
    exact .inl (k Hf M H x y d e z Q m hx hy hg q)
  | none =>
    rw [hg] at hz
    exact .inr (k' Hf M H x y d e z Q m hx hy hz q)
def wOp (g : Dd → Dd → Option Dd) (wa wb : WE) : WE := fun sl M Q E => wa sl M (fun d M1 => wb sl M1 (fun e M2 => ∃ z, g (der M2 d) (der M2 e) = some z ∧ Q z M2) E) E
theorem low_op {r : R2} {g : Dd → Dd → Option Dd} {wa wb : WE} (hr : ∀ (Hf : Hp) (M : MS) (H : Hp) (x y : V) (d e z : Dd) (Q : VK), Wd Hf M H → RepT Hf M H x d → RepT Hf M H y e → g d e = some z →
  (∀ v Hf' H', Grow Hf H Hf' H' → Rep Hf' v z → Q v H') → r x y H Q) : ∀ σ H Q, low W (wOp g wa wb) σ H Q → tOp r (low W wa) (low W wb) σ H Q := by
  rintro σ H Q ⟨sl, Hf, M, Qd, Xd, rl, w, k, kx⟩
  refine ⟨sl, Hf, M, _, Xd, rl, w, fun d Hf1 M1 v H1 s1 r1 w1 => ?_, kx⟩
  refine ⟨sl, Hf1, M1, _, Xd, rl.step s1, w1, fun e Hf2 M2 u H2 s2 r2 w2 => ?_, fun c Hf2 M2 H2 s2 hx => kx c Hf2 M2 H2 (s1.trans s2) hx⟩
  obtain ⟨z, hz, q⟩ := w2
  refine hr Hf2 M2 H2 v u _ _ z _ s2.wd (RepT.of s2.wd (r1.mono s2.up)) (RepT.of s2.wd r2) hz fun v' Hf' H' sm rz => ?_
  exact k z Hf' M2 v' H' ((s1.trans s2).trans (Stp.grow s2.wd sm)) rz q
theorem d_op {op : Operator} {g : Dd → Dd → Option Dd} {wa wb : WE} (ho : OpG X (binaryOp op) g) (ha : PE X a (low W wa)) (hb : PE X b (low W wb)) : PE X (.BinOp a op b pos) (low W (wOp g wa wb)) := by
  obtain ⟨r, o, k⟩ := ho
  exact PE.imp (pe_op o ha hb) (low_op k)
theorem d_cmp {op : CmpOp} {g : Dd → Dd → Option Dd} {wa wb : WE} (ho : OpG X (compareOp op) g) (ha : PE X a (low W wa)) (hb : PE X b (low W wb)) (hm : behindInMarks op b = false) : PE X (.Compare a [op] [b] pos) (low W (wOp g wa wb)) := by
  obtain ⟨r, o, k⟩ := ho
  exact PE.imp (pe_cmpR o ha hb hm) (low_op k)
def wTest (w : WE) : WT := fun sl M Q E => w sl M (fun d M1 => ∃ k, d = .bl k ∧ Q k M1) E
theorem low_test {w : WE} : ∀ σ H Q, lowT W (wTest w) σ H Q → tTest (low W w) σ H Q := by
  rintro σ H Q ⟨sl, Hf, M, Qd, Xd, rl, w, k, kx⟩
  refine ⟨sl, Hf, M, _, Xd, rl, w, fun d Hf1 M1 v H1 s1 r1 w1 => ?_, kx⟩
  obtain ⟨b, rfl, q⟩ := w1
  cases r1
  exact ⟨b, rfl, k b Hf1 M1 H1 s1 q⟩
theorem tTest_imp {t t' : TE} (h : ∀ σ H Q, t' σ H Q → t σ H Q) : ∀ σ H Q, tTest t' σ H Q → tTest t σ H Q := fun σ H Q z => h σ H _ z
theorem t_cmp {op : CmpOp} {g : Dd → Dd → Option Dd} {wa wb : WE} (ho : OpG X (compareOp op) g) (ha : PE X a (low W wa)) (hb : PE X b (low W wb)) (hm : behindInMarks op b = false) : PT X (.Compare a [op] [b] pos) (lowT W (wTest (wOp g wa wb))) := by
  obtain ⟨r, o, k⟩ := ho
  exact PT.imp (pt_cmpR o ha hb hm) fun σ H Q z => tTest_imp (low_op k) σ H Q (low_test σ H Q z)
theorem t_val {w : WE} (h : PE X e (low W w)) (he : ∀ whole, isTrue e X.env whole = (do let v ← whole; standAt e.pos; holding [v] (truthy v)) := by intro _; rfl) : PT X e (lowT W (wTest w)) :=
  PT.imp (pt_val h he) fun σ H Q z => low_test σ H Q z
/-- a < b < c -/
def wChain (g g' : Dd → Dd → Option Dd) (wa wb wc : WE) : WE := fun sl M Q E => wa sl M (fun d M1 => wb sl M1 (fun e M2 => ∃ k, g (der M2 d) (der M2 e) = some (.bl k) ∧
  if k = true then wc sl M2 (fun f M3 => ∃ z, g' (der M3 e) (der M3 f) = some z ∧ Q z M3) E else Q (.bl false) M2) E) E
theorem low_chain {r r' : R2} {g g' : Dd → Dd → Option Dd} {wa wb wc : WE}
    (hr : ∀ (Hf : Hp) (M : MS) (H : Hp) (x y : V) (d e z : Dd) (Q : VK), Wd Hf M H → RepT Hf M H x d → RepT Hf M H y e → g d e = some z → (∀ v Hf' H', Grow Hf H Hf' H' → Rep Hf' v z → Q v H') → r x y H Q)
    (hr' : ∀ (Hf : Hp) (M : MS) (H : Hp) (x y : V) (d e z : Dd) (Q : VK), Wd Hf M H → RepT Hf M H x d → RepT Hf M H y e → g' d e = some z → (∀ v Hf' H', Grow Hf H Hf' H' → Rep Hf' v z → Q v H') → r' x y H Q) :
    ∀ σ H Q, low W (wChain g g' wa wb wc) σ H Q → tChain r r' (low W wa) (low W wb) (low W wc) σ H Q := by
  rintro σ H Q ⟨sl, Hf, M, Qd, Xd, rl, w, k, kx⟩
  refine ⟨sl, Hf, M, _, Xd, rl, w, fun d Hf1 M1 v H1 s1 r1 w1 => ?_, kx⟩
  refine ⟨sl, Hf1, M1, _, Xd, rl.step s1, w1, fun e Hf2 M2 u H2 s2 r2 w2 => ?_, fun c Hf2 M2 H2 s2 hx => kx c Hf2 M2 H2 (s1.trans s2) hx⟩
  obtain ⟨b, hz, q⟩ := w2
  refine hr Hf2 M2 H2 v u _ _ _ _ s2.wd (RepT.of s2.wd (r1.mono s2.up)) (RepT.of s2.wd r2) hz fun v' Hf' H' sm rz => ?_
  cases rz
  refine ⟨b, rfl, ?_⟩
  have s3 := (s1.trans s2).trans (Stp.grow s2.wd sm)
  cases b with
  | false => exact k _ Hf' M2 _ H' s3 (.bl false) q
  | true =>
    refine ⟨sl, Hf', M2, _, Xd, rl.step s3, q, fun f Hf3 M3 u3 H3 s4 r3 w3 => ?_, fun c Hf3 M3 H3 s4 hx => kx c Hf3 M3 H3 (s3.trans s4) hx⟩
    obtain ⟨z, hz3, q3⟩ := w3
    refine hr' Hf3 M3 H3 u u3 _ _ z _ s4.wd (RepT.of s4.wd (r2.mono ((Stp.grow s2.wd sm).trans s4).up)) (RepT.of s4.wd r3) hz3 fun v' Hf4 H' sm4 rz => ?_
    exact k z Hf4 M3 v' H' ((s3.trans s4).trans (Stp.grow s4.wd sm4)) rz q3
end
end DL
/-! DG: defs that are called where no repr is under way. -/
namespace DL
open PySem PySem.Spec PyProof.Rows L2
/-- where b holds no repr is under way -/
abbrev Bare (bm : Bool) (A : Around) : Prop := bm = true → A.guards = some []
/-- as the layer's FnOk, for calls out of such surroundings -/
structure FnG (bm : Bool) (P : Program) (w : World) (K : PySem.W.Frag) (mg : Str → Option Value) (base : Heap) (k : Nat) (f : Addr) (fd : FuncData) (ps : List Str) (sp : Sp) : Prop where
  len : ∀ vs H Q E, sp vs H Q E → vs.length = ps.length
  run : ∀ (A : Around) (outer : List Env) (s : Shared) (H : Hp) (args : Args) (us : List Value) (vs : List V) (Q : VK) (E : XK), Bare bm A → Room k A → Env0 P w K mg base A outer s H → BindsTo s fd args (ps.zip us) → Vals vs us → sp vs H Q E →
    codeAny (model P w) A (.call (.ref f) args) (CR (L2.CX P w) outer P w H s Q E) s
theorem FnG.mono {P : Program} {w : World} {K : PySem.W.Frag} {mg : Str → Option Value} {base : Heap} {j k : Nat} {f : Addr} {fd : FuncData} {ps : List Str} {sp : Sp} (F : FnG bm P w K mg base j f fd ps sp) (h : j ≤ k) : FnG bm P w K mg base k f fd ps sp :=
  ⟨F.len, fun A outer s H args us vs Q E hg hr => F.run A outer s H args us vs Q E hg (hr.mono h)⟩
section
variable {P : Program} {w : World} {K : PySem.W.Frag} {mg : Str → Option Value} {base : Heap}
/-- a def by its body -/
theorem fnG_of {x qual : Str} {params : Arguments} {body : List Stmt} {scope : Scope} {dvs : List V} {kws : List (Str × V)} {f : Addr} {fd : FuncData} {N ps : List Str} {k : Nat} {sp : Sp} (F : FunD K x qual params body scope dvs kws f fd) (S : FnScope N ps scope)
    (hlen : ∀ vs H Q E, sp vs H Q E → vs.length = ps.length)
    (hbody : ∀ (cdv : Value) (A : Around) (outer : List Env) (s : Shared) (H : Hp) (vs : List V) (Q : VK) (E : XK), Bare bm A → Room k (A.deeper (envOfC qual scope s.heap.objs.size f cdv)) → sp vs H Q E →
      ∃ t, PSs (cxOf (L2.CX P w) P w K mg base N qual scope f cdv A outer s H E) body t ∧ t { nx := fun _ H' => Q .non H', rt := Q } (L2.start N vs) H) : FnG bm P w K mg base (k + 1) f fd ps sp := by
  obtain ⟨oc, od, dV, kV, doc, pm, an, cdv, ct, osl, rfl, at_f, code, _, _⟩ := F.ex
  refine ⟨hlen, ?_⟩
  intro A outer s H args us vs Q E bareA room env0 binds vals prom
  have inK : K.In s.heap := env0.mod.kin.keeps fun b o e => (env0.bs b o e).1
  have nolim := env0.mod.nolimit.keeps fun b o e => (env0.bs b o e).1
  have kinds : ∀ y ∈ ps.zip us, scope.names.lookup y.1 = some .local ∨ (scope.names.lookup y.1 = some .cell ∧ ((cellsFrom (s.heap.objs.size + 1) scope.names []).lookup y.1).isSome = true) := by
    rintro ⟨n, v⟩ mem
    cases S.par n (List.of_mem_zip mem).1 with
    | inl q => exact Or.inl q
    | inr q => exact Or.inr ⟨q, PySem.W.cellsFrom_some _ _ _ (.inl q)⟩
  apply codeAny_call_function room.depth (inK _ _ at_f) rfl S.co S.gen rfl (PySem.W.codeRec_of inK code)
  apply binds
  apply wpAny_newFunctionEnv_cells S.kind kinds
  rintro env rfl s1 x
  refine ⟨nolim.keeps x.toInCall.keep, codeAny_func ?_⟩
  obtain ⟨t, der, rd⟩ := hbody cdv A outer s H vs Q E bareA (room.deeper _) prom
  have inv := inv_start (CX := L2.CX P w) (E := E) S room.hd env0 (hlen _ _ _ _ prom) vals x
  apply wpAny_mono (der.run [] s1 _ H _ inv rd)
  · intro flow s' h
    cases flow with
    | ret u => obtain ⟨v, _, H', J, rv, q⟩ := h; exact ⟨v, H', J.os, J.bare, J.base, J.hok, rv, q⟩
    | next => obtain ⟨_, H', J, q⟩ := h; exact ⟨V.non, H', J.os, J.bare, J.base, J.hok, rfl, q⟩
    | brk => obtain ⟨_, _, _, q⟩ := h; exact q.elim
    | cont => obtain ⟨_, _, _, q⟩ := h; exact q.elim
  · exact fun _ _ h => h
/-- a callable by the values of its arguments -/
def FR (bm : Bool) (P : Program) (w : World) (K : PySem.W.Frag) (mg : Str → Option Value) (base : Heap) (k : Nat) (f : Addr) (sp : Sp) : Prop :=
  ∀ (A : Around) (outer : List Env) (s : Shared) (H : Hp) (us : List Value) (vs : List V) (Q : VK) (E : XK), Bare bm A → Room k A → Env0 P w K mg base A outer s H → Vals vs us → sp vs H Q E →
    codeAny (model P w) A (.call (.ref f) ⟨us, []⟩) (CR (L2.CX P w) outer P w H s Q E) s
theorem FR.mono {j k : Nat} {f : Addr} {sp : Sp} (F : FR bm P w K mg base j f sp) (h : j ≤ k) : FR bm P w K mg base k f sp := fun A outer s H us vs Q E bA hr => F A outer s H us vs Q E bA (hr.mono h)
theorem FR.of {k : Nat} {f : Addr} {fd : FuncData} {ps : List Str} {sp : Sp} (F : FnG bm P w K mg base k f fd ps sp) (hb : Binds K fd ps []) : FR bm P w K mg base k f sp := by
  intro A outer s H us vs Q E bA hr e0 rv hsp
  have inK : K.In s.heap := e0.mod.kin.keeps fun b o e => (e0.bs b o e).1
  have hl : (us ++ []).length = ps.length := by
    rw [List.append_nil, ← rv.length]
    exact F.len _ _ _ _ hsp
  have z := hb s us inK hl
  rw [List.append_nil] at z
  exact F.run A outer s H ⟨us, []⟩ us vs Q E bA hr e0 z rv hsp
/-- def f(a, .., *v) -/
theorem fr_star {x qual : Str} {params : Arguments} {body : List Stmt} {scope : Scope} {dvs : List V} {kws : List (Str × V)} {f : Addr} {fd : FuncData} {N ps : List Str} {pv : Str} {k : Nat} {sp : Sp} (F : FunD K x qual params body scope dvs kws f fd) (S : FnScope N (ps ++ [pv]) scope)
    (hb : ∀ us rest : List Value, us.length = ps.length → bindArgs fd ⟨us ++ rest, []⟩ = (newTuple rest >>= fun t => pure (ps.zip us ++ [(pv, t)])))
    (hbody : ∀ (cdv : Value) (A : Around) (outer : List Env) (s : Shared) (H : Hp) (vs : List V) (Q : VK) (E : XK), Bare bm A → Room k (A.deeper (envOfC qual scope s.heap.objs.size f cdv)) → sp vs H Q E →
      ∃ t, PSs (cxOf (L2.CX P w) P w K mg base N qual scope f cdv A outer s H E) body t ∧ t { nx := fun _ H' => Q .non H', rt := Q } (L2.start N vs) H) :
    FR bm P w K mg base (k + 1) f (fun vs H Q E => ∃ ws rest, vs = ws ++ rest ∧ ws.length = ps.length ∧ rest.length ≤ sizeLine ∧ ∀ p o, H p = none → o.dict = none → sp (ws ++ [V.ref p]) (upd H p (.frz o (.tup rest))) Q E) := by
  obtain ⟨oc, od, dV, kV, doc, pm, an, cdv, ct, osl, rfl, at_f, code, _, _⟩ := F.ex
  intro A outer s H us vs Q E bA hr e0 rv hsp
  obtain ⟨ws, rest, rfl, hl, hz, hq⟩ := hsp
  obtain ⟨u1, u2, rfl, r1, r2⟩ := StX.vals_split rv
  have hl1 : u1.length = ps.length := r1.length.symm.trans hl
  have hl2 : u2.length ≤ sizeLine := by rw [← r2.length]; exact hz
  have hn : H s.heap.objs.size = none := e0.hok.fresh (Nat.le_refl _)
  apply StX.run_bnd at_f code S hr e0 (G := fun xs H2 => ∃ p o, H p = none ∧ o.dict = none ∧ xs = ws ++ [V.ref p] ∧ H2 = upd H p (.frz o (.tup rest)))
  · intro A' Ex Q' h
    rw [hb u1 u2 hl1]
    apply wpAny_bind
    apply wpAny_newTuple _ hl2
    apply wpAny_pure
    let o : Obj := { cls := .type "tuple", data := .seq u2.toArray }
    have new : ObjOk P w (upd H s.heap.objs.size (.frz o (.tup rest))) (s.heap.push o) s.heap.objs.size (.frz o (.tup rest)) := ⟨Heap.get?_push_size _ rfl, hz, u2, r2, ⟨_, Heap.get?_push_size _ rfl, rfl, _, rfl⟩⟩
    have un := StX.un_laid (fs := frs outer) (s := s) (o := o) (u := .frz o (.tup rest)) hn
    have z := h _ _ (ws ++ [V.ref s.heap.objs.size]) (u1 ++ [Value.ref s.heap.objs.size]) (StX.env0_laid e0 new) un rfl (fun e s' => StX.cxUp outer s H _ _ E e s' un (fun b o q => Heap.get?_push_of_some _ q) rfl) (r1.append (.cons rfl .nil))
      (by rw [List.length_append, List.length_append, hl] <;> rfl) ⟨_, o, hn, rfl, rfl, rfl⟩
    rw [List.zip_append hl1.symm] at z
    exact z
  · rintro s2 H2 xs ⟨p, o, hp, ho, rfl, rfl⟩ hr'
    exact hbody cdv A outer s2 _ _ Q E bA hr' (hq p o hp ho)
/-- what comes back from a call -/
def BackP (X : Cx) (pins : List (Addr × Obj)) (σ : L2.St) (Q : VK) (r : Result) (s' : Shared) : Prop := match r with
  | .ok (.ret u) => EP X pins σ Q u s'
  | .ok _ => False
  | .error e => X.xe e s'
theorem back {X : Cx} {pins : List (Addr × Obj)} {σ : L2.St} {H : Hp} {s : Shared} {Q : VK} {E : XK} (I : Inv X pins σ H s) (hx : PassesAt (L2.CX X.prog X.w) X σ E) {r : Result} {s' : Shared} (h : CR (L2.CX X.prog X.w) X.stack X.prog X.w H s Q E r s') : BackP X pins σ Q r s' := by
  cases r with
  | error e => exact hx pins H s e s' I h
  | ok fl =>
    cases fl with
    | ret u => exact I.after h
    | _ => exact h
/-- a call of the callable at f with its values -/
theorem run_code {X : Cx} {k : Nat} {f : Addr} {sp : Sp} {pins : List (Addr × Obj)} {σ : L2.St} {H : Hp} {s : Shared} {Q : VK} {E : XK} {us : List Value} {vs : List V} (F : FR bm X.prog X.w X.K X.mg X.base k f sp) (bA : Bare bm X.A) (hr : Room k X.A)
    (hx : PassesAt (L2.CX X.prog X.w) X σ E) (I : Inv X pins σ H s) (r : Vals vs us) (h : sp vs H Q E) : codeAny (model X.prog X.w) X.A (.call (.ref f) ⟨us, []⟩) (BackP X pins σ Q) s := by
  apply codeAny_mono (F X.A X.stack s H us vs Q E bA hr I.env0 r h)
  intro r s' hq
  exact back I hx hq
theorem run_G {X : Cx} {k : Nat} {f : Addr} {sp : Sp} {pins : List (Addr × Obj)} {σ : L2.St} {H : Hp} {s : Shared} {Q : VK} {E : XK} {us : List Value} {vs : List V} (F : FR bm X.prog X.w X.K X.mg X.base k f sp) (bA : Bare bm X.A) (hr : Room k X.A)
    (hx : PassesAt (L2.CX X.prog X.w) X σ E) (I : Inv X pins σ H s) (r : Vals vs us) (h : sp vs H Q E) : wpAny (model X.prog X.w) X.A (call (.ref f) us) (EP X pins σ Q) X.xe s := by
  apply wpAny_call
  apply codeAny_mono (run_code F bA hr hx I r h)
  intro r s' z
  cases r with
  | error e => exact z
  | ok fl => cases fl <;> exact z
end
end DL
/-! DL3: and, or, not, if; arguments, displays, calls; statements; targets, walks, for, comprehensions; a def. -/
namespace DL
open PySem PySem.Spec PyProof.Rows L2
section
variable {X : Cx} {W : WX} {e a b c : Expr} {es rest : List Expr} {pos : Pos}
theorem d_chain {op op' : CmpOp} {g g' : Dd → Dd → Option Dd} {wa wb wc : WE} (ho : OpG X (compareOp op) g) (ho' : OpG X (compareOp op') g') (ha : PE X a (low W wa)) (hb : PE X b (low W wb)) (hc : PE X c (low W wc))
    (hm : lastMarks [op, op'] [b, c] = false := by with_unfolding_all rfl) : PE X (.Compare a [op, op'] [b, c] pos) (low W (wChain g g' wa wb wc)) := by
  obtain ⟨r, o, k⟩ := ho
  obtain ⟨r', o', k'⟩ := ho'
  exact PE.imp (pe_chain o o' ha hb hc hm) (low_chain k k')
theorem t_chain {op op' : CmpOp} {g g' : Dd → Dd → Option Dd} {wa wb wc : WE} (ho : OpG X (compareOp op) g) (ho' : OpG X (compareOp op') g') (ha : PE X a (low W wa)) (hb : PE X b (low W wb)) (hc : PE X c (low W wc))
    (hm : lastMarks [op, op'] [b, c] = false := by with_unfolding_all rfl) : PT X (.Compare a [op, op'] [b, c] pos) (lowT W (wTest (wChain g g' wa wb wc))) := by
  obtain ⟨r, o, k⟩ := ho
  obtain ⟨r', o', k'⟩ := ho'
  exact PT.imp (pt_chain o o' ha hb hc hm) fun σ H Q z => tTest_imp (low_chain k k') σ H Q (low_test σ H Q z)
/-! ### and, or, not -/
def wAnd (t u : WT) : WT := fun sl M Q E => t sl M (fun k M1 => if k = true then u sl M1 Q E else Q false M1) E
def wOr (t u : WT) : WT := fun sl M Q E => t sl M (fun k M1 => if k = true then Q true M1 else u sl M1 Q E) E
def wNot (t : WT) : WT := fun sl M Q E => t sl M (fun k M1 => Q (!k) M1) E
def wAndV (t u : WE) : WE := fun sl M Q E => t sl M (fun d M1 => ∃ k, d = .bl k ∧ if k = true then u sl M1 Q E else Q (.bl false) M1) E
def wOrV (t u : WE) : WE := fun sl M Q E => t sl M (fun d M1 => ∃ k, d = .bl k ∧ if k = true then Q (.bl true) M1 else u sl M1 Q E) E
def wNotV (t : WE) : WE := fun sl M Q E => t sl M (fun d M1 => ∃ k, d = .bl k ∧ Q (.bl (!k)) M1) E
def wIf (t : WT) (u v : WE) : WE := fun sl M Q E => t sl M (fun k M1 => if k = true then u sl M1 Q E else v sl M1 Q E) E
variable {t u : WT} {wa wb wc : WE}
theorem w_and1 (ha : PT X a (lowT W t)) : PW X (.BoolOp .And [a] pos) (lowT W t) := pw_and1 ha
theorem w_or1 (ha : PT X a (lowT W t)) : PW X (.BoolOp .Or [a] pos) (lowT W t) := pw_or1 ha
theorem w_and (ha : PT X a (lowT W t)) (hb : PW X (.BoolOp .And (b :: rest) pos) (lowT W u)) : PW X (.BoolOp .And (a :: b :: rest) pos) (lowT W (wAnd t u)) := by
  refine PW.imp (pw_and ha hb) fun σ H Q ⟨sl, Hf, M, Qd, Xd, rl, w, k, kx⟩ => ⟨sl, Hf, M, _, Xd, rl, w, fun d Hf1 M1 H1 s1 w1 => ?_, kx⟩
  cases d with
  | true => exact ⟨sl, Hf1, M1, _, Xd, rl.step s1, w1, fun d Hf2 M2 H2 s2 w2 => k d Hf2 M2 H2 (s1.trans s2) w2, fun c Hf2 M2 H2 s2 hx => kx c Hf2 M2 H2 (s1.trans s2) hx⟩
  | false => exact k false Hf1 M1 H1 s1 w1
theorem w_or (ha : PT X a (lowT W t)) (hb : PW X (.BoolOp .Or (b :: rest) pos) (lowT W u)) : PW X (.BoolOp .Or (a :: b :: rest) pos) (lowT W (wOr t u)) := by
  refine PW.imp (pw_or ha hb) fun σ H Q ⟨sl, Hf, M, Qd, Xd, rl, w, k, kx⟩ => ⟨sl, Hf, M, _, Xd, rl, w, fun d Hf1 M1 H1 s1 w1 => ?_, kx⟩
  cases d with
  | false => exact ⟨sl, Hf1, M1, _, Xd, rl.step s1, w1, fun d Hf2 M2 H2 s2 w2 => k d Hf2 M2 H2 (s1.trans s2) w2, fun c Hf2 M2 H2 s2 hx => kx c Hf2 M2 H2 (s1.trans s2) hx⟩
  | true => exact k true Hf1 M1 H1 s1 w1
theorem t_bool (h : PW X e (lowT W t)) : PT X e (lowT W t) := h.pt
theorem t_not (ha : PT X a (lowT W t)) : PT X (.UnaryOp .Not a pos) (lowT W (wNot t)) :=
  PT.imp (pt_not ha) fun σ H Q ⟨sl, Hf, M, Qd, Xd, rl, w, k, kx⟩ => ⟨sl, Hf, M, _, Xd, rl, w, fun d Hf1 M1 H1 s1 w1 => k _ Hf1 M1 H1 s1 w1, kx⟩
theorem d_one {op} (h : PE X a (low W wa)) : PE X (.BoolOp op [a] pos) (low W wa) := pe_one h
theorem d_and (ha : PE X a (low W wa)) (hb : PE X (.BoolOp .And (b :: rest) pos) (low W wb)) : PE X (.BoolOp .And (a :: b :: rest) pos) (low W (wAndV wa wb)) := by
  refine PE.imp (pe_and ha hb) fun σ H Q ⟨sl, Hf, M, Qd, Xd, rl, w, k, kx⟩ => ⟨sl, Hf, M, _, Xd, rl, w, fun d Hf1 M1 v H1 s1 r1 w1 => ?_, kx⟩
  obtain ⟨x, rfl, w1⟩ := w1
  cases r1
  refine ⟨x, rfl, ?_⟩
  cases x with
  | true => exact ⟨sl, Hf1, M1, _, Xd, rl.step s1, w1, fun d Hf2 M2 v H2 s2 r2 w2 => k d Hf2 M2 v H2 (s1.trans s2) r2 w2, fun c Hf2 M2 H2 s2 hx => kx c Hf2 M2 H2 (s1.trans s2) hx⟩
  | false => exact k _ Hf1 M1 _ H1 s1 (.bl false) w1
theorem d_or (ha : PE X a (low W wa)) (hb : PE X (.BoolOp .Or (b :: rest) pos) (low W wb)) : PE X (.BoolOp .Or (a :: b :: rest) pos) (low W (wOrV wa wb)) := by
  refine PE.imp (pe_or ha hb) fun σ H Q ⟨sl, Hf, M, Qd, Xd, rl, w, k, kx⟩ => ⟨sl, Hf, M, _, Xd, rl, w, fun d Hf1 M1 v H1 s1 r1 w1 => ?_, kx⟩
  obtain ⟨x, rfl, w1⟩ := w1
  cases r1
  refine ⟨x, rfl, ?_⟩
  cases x with
  | false => exact ⟨sl, Hf1, M1, _, Xd, rl.step s1, w1, fun d Hf2 M2 v H2 s2 r2 w2 => k d Hf2 M2 v H2 (s1.trans s2) r2 w2, fun c Hf2 M2 H2 s2 hx => kx c Hf2 M2 H2 (s1.trans s2) hx⟩
  | true => exact k _ Hf1 M1 _ H1 s1 (.bl true) w1
theorem d_not (ha : PE X a (low W wa)) : PE X (.UnaryOp .Not a pos) (low W (wNotV wa)) := by
  refine PE.imp (pe_not ha) fun σ H Q ⟨sl, Hf, M, Qd, Xd, rl, w, k, kx⟩ => ⟨sl, Hf, M, _, Xd, rl, w, fun d Hf1 M1 v H1 s1 r1 w1 => ?_, kx⟩
  obtain ⟨x, rfl, w1⟩ := w1
  cases r1
  exact ⟨x, rfl, k _ Hf1 M1 _ H1 s1 (.bl _) w1⟩
theorem d_ifExp (hc : PT X c (lowT W t)) (ha : PE X a (low W wa)) (hb : PE X b (low W wb)) : PE X (.IfExp c a b pos) (low W (wIf t wa wb)) := by
  refine PE.imp (pe_ifExp hc ha hb) fun σ H Q ⟨sl, Hf, M, Qd, Xd, rl, w, k, kx⟩ => ⟨sl, Hf, M, _, Xd, rl, w, fun d Hf1 M1 H1 s1 w1 => ?_, kx⟩
  cases d with
  | true => exact ⟨sl, Hf1, M1, _, Xd, rl.step s1, w1, fun d Hf2 M2 v H2 s2 r2 w2 => k d Hf2 M2 v H2 (s1.trans s2) r2 w2, fun c Hf2 M2 H2 s2 hx => kx c Hf2 M2 H2 (s1.trans s2) hx⟩
  | false => exact ⟨sl, Hf1, M1, _, Xd, rl.step s1, w1, fun d Hf2 M2 v H2 s2 r2 w2 => k d Hf2 M2 v H2 (s1.trans s2) r2 w2, fun c Hf2 M2 H2 s2 hx => kx c Hf2 M2 H2 (s1.trans s2) hx⟩
/-! ### arguments, displays -/
def wNil : WA := fun _ M Q _ => Q [] M
def wCons (wa : WE) (wr : WA) : WA := fun sl M Q E => wa sl M (fun d M1 => wr sl M1 (fun ds M2 => Q (d :: ds) M2) E) E
theorem a_nil : PA X [] (lowA W wNil) := PA.imp pa_nil fun σ H Q ⟨sl, Hf, M, Qd, Xd, rl, w, k, kx⟩ => k [] Hf M [] H (Stp.refl rl.wd) .nil w
theorem a_cons {wr : WA} (ha : PE X e (low W wa)) (hr : PA X es (lowA W wr)) (hs : starEach (e :: es) X.env = (false, eval e X.env) :: starEach es X.env := by rfl) : PA X (e :: es) (lowA W (wCons wa wr)) :=
  PA.imp (pa_cons ha hr hs) fun σ H Q ⟨sl, Hf, M, Qd, Xd, rl, w, k, kx⟩ => ⟨sl, Hf, M, _, Xd, rl, w, fun d Hf1 M1 v H1 s1 r1 w1 =>
    ⟨sl, Hf1, M1, _, Xd, rl.step s1, w1, fun ds Hf2 M2 vs H2 s2 r2 w2 => k (d :: ds) Hf2 M2 (v :: vs) H2 (s1.trans s2) (.cons (r1.mono s2.up) r2) w2, fun c Hf2 M2 H2 s2 hx => kx c Hf2 M2 H2 (s1.trans s2) hx⟩, kx⟩
/-- a new tuple | a new list, as data -/
def wTup (wa : WA) : WE := fun sl M Q E => wa sl M (fun ds M1 => ds.length ≤ 100000 ∧ Q (.tup ds) M1) E
def wLst (wa : WA) : WE := fun sl M Q E => wa sl M (fun ds M1 => ds.length ≤ 100000 ∧ Q (.lst ds) M1) E
/-- a new list that will change -/
def wNew (wa : WA) : WE := fun sl M Q E => wa sl M (fun ds M1 => ds.length ≤ 100000 ∧ ∀ p, M1 p = none → Q (.raw (.ref p)) (updM M1 p (.lst ds))) E
theorem sz5 {n : Nat} (h : n ≤ 100000) : n ≤ sizeLine := Nat.le_trans h (by decide)
theorem sz5lt {n : Nat} (h : n < 100000) : n < sizeLine := Nat.lt_of_lt_of_le h (by decide)
/-- a tuple as it is made -/
abbrev tOb (us : List Value) : Obj := { cls := .type "tuple", data := .seq us.toArray }
theorem tOb_ok {P : Program} {w : World} {H : Hp} {h : Heap} {us : List Value} {xs : List V} (r : Vals xs us) (z : xs.length ≤ sizeLine) : ObjOk P w H (h.push (tOb us)) h.objs.size (.frz (tOb us) (.tup xs)) :=
  ⟨Heap.get?_push_size _ rfl, z, us, r, _, Heap.get?_push_size _ rfl, rfl, _, rfl⟩
/-- a new tuple, its object known -/
def tTupF (ta : TA) : TE := fun σ H Q => ta σ H fun vs H1 => vs.length ≤ sizeLine ∧ ∀ p o, H1 p = none → o.dict = none → Q (.ref p) (upd H1 p (.frz o (.tup vs)))
theorem pe_tupF {x1} {ta : TA} (h : PA X es ta) : PE X (.Tuple es x1 pos) (tTupF ta) := by
  constructor
  intro pins s σ H Q I hq
  apply wpAny_Tuple_spliced
  apply thn (h.run pos pins s σ H _ I hq)
  rintro us s1 ⟨xs, H1, I1, r, z, q⟩
  refine ⟨r.length ▸ z, ?_⟩
  exact ⟨.ref _, _, I1.laid (t' := s1.toks) (fun b u e => Heap.get?_push_of_some _ e) (Nat.le_refl _) (tOb_ok r z), rfl, q _ _ (I1.hok.fresh (Nat.le_refl _)) rfl⟩
theorem d_tup {x1} {wr : WA} (h : PA X es (lowA W wr)) : PE X (.Tuple es x1 pos) (low W (wTup wr)) :=
  PE.imp (pe_tupF h) fun σ H Q ⟨sl, Hf, M, Qd, Xd, rl, w, k, kx⟩ => ⟨sl, Hf, M, _, Xd, rl, w, fun ds Hf1 M1 vs H1 s1 r1 ⟨z, w1⟩ => ⟨by rw [r1.length]; exact sz5 z, fun p o hp ho =>
    k (.tup ds) _ M1 (.ref p) _ (s1.trans (Stp.grow s1.wd (Grow.one s1.wd.le hp))) (.tup upd_same ho (r1.mono (Grow.one s1.wd.le hp).fz)) w1⟩, kx⟩
theorem d_lst {wr : WA} (h : PA X es (lowA W wr)) : PE X (.List es pos) (low W (wLst wr)) :=
  PE.imp (pe_lst h) fun σ H Q ⟨sl, Hf, M, Qd, Xd, rl, w, k, kx⟩ => ⟨sl, Hf, M, _, Xd, rl, w, fun ds Hf1 M1 vs H1 s1 r1 ⟨z, w1⟩ => ⟨by rw [r1.length]; exact sz5 z, fun p hp =>
    k (.lst ds) _ M1 (.ref p) _ (s1.trans (Stp.grow s1.wd (Grow.one s1.wd.le hp))) (.lst upd_same (r1.mono (Grow.one s1.wd.le hp).fz)) w1⟩, kx⟩
theorem d_new {wr : WA} (h : PA X es (lowA W wr)) : PE X (.List es pos) (low W (wNew wr)) :=
  PE.imp (pe_lst h) fun σ H Q ⟨sl, Hf, M, Qd, Xd, rl, w, k, kx⟩ => ⟨sl, Hf, M, _, Xd, rl, w, fun ds Hf1 M1 vs H1 s1 r1 ⟨z, w1⟩ => ⟨by rw [r1.length]; exact sz5 z, fun p hp =>
    k (.raw (.ref p)) Hf1 _ (.ref p) _ (s1.trans (Stp.write (mo := .lst ds) s1.wd (.inr hp) ⟨vs, upd_same, r1⟩)) (.raw _) (w1 p (s1.wd.free hp).1)⟩, kx⟩
/-! ### calls of built-ins -/
inductive RepTs (Hf : Hp) (M : MS) (H : Hp) : List V → List Dd → Prop
  | nil : RepTs Hf M H [] []
  | cons {v : V} {vs : List V} {d : Dd} {ds : List Dd} : RepT Hf M H v d → RepTs Hf M H vs ds → RepTs Hf M H (v :: vs) (d :: ds)
theorem RepTs.of {Hf : Hp} {M : MS} {H : Hp} (m : Wd Hf M H) : ∀ {ds : List Dd} {vs : List V}, RepAll Hf vs ds → RepTs Hf M H vs (ds.map (der M))
  | [], _, .nil => .nil
  | _ :: _, _, .cons h r => .cons (RepT.of m h) (RepTs.of m r)
theorem RepTs.one {Hf : Hp} {M : MS} {H : Hp} {vs : List V} {d : Dd} (h : RepTs Hf M H vs [d]) : ∃ v, vs = [v] ∧ RepT Hf M H v d := by
  cases h with
  | cons h r => cases r; exact ⟨_, rfl, h⟩
theorem RepTs.two {Hf : Hp} {M : MS} {H : Hp} {vs : List V} {d e : Dd} (h : RepTs Hf M H vs [d, e]) : ∃ v u, vs = [v, u] ∧ RepT Hf M H v d ∧ RepT Hf M H u e := by
  cases h with
  | cons h r =>
    obtain ⟨u, rfl, h2⟩ := r.one
    exact ⟨_, _, rfl, h, h2⟩
/-- a function on data, that makes new things at most -/
def CallG (X : Cx) (f : Value) (g : List Dd → Option Dd) : Prop := ∃ r : List V → Hp → VK → Prop, CallR X f r ∧ ∀ (Hf : Hp) (M : MS) (H : Hp) (xs : List V) (ds : List Dd) (z : Dd) (Q : VK), Wd Hf M H → RepTs Hf M H xs ds → g ds = some z →
  (∀ v Hf' H', Grow Hf H Hf' H' → Rep Hf' v z → Q v H') → r xs H Q
def wCB (g : List Dd → Option Dd) (wa : WA) : WE := fun sl M Q E => wa sl M (fun ds M1 => ∃ z, g (ds.map (der M1)) = some z ∧ Q z M1) E
theorem low_cb {r : List V → Hp → VK → Prop} {g : List Dd → Option Dd} {wr : WA} (hr : ∀ (Hf : Hp) (M : MS) (H : Hp) (xs : List V) (ds : List Dd) (z : Dd) (Q : VK), Wd Hf M H → RepTs Hf M H xs ds → g ds = some z →
    (∀ v Hf' H', Grow Hf H Hf' H' → Rep Hf' v z → Q v H') → r xs H Q) : ∀ σ H Q, low W (wCB g wr) σ H Q → tCB r (lowA W wr) σ H Q := by
  rintro σ H Q ⟨sl, Hf, M, Qd, Xd, rl, w, k, kx⟩
  refine ⟨sl, Hf, M, _, Xd, rl, w, fun ds Hf1 M1 vs H1 s1 r1 ⟨z, hz, q⟩ => ?_, kx⟩
  exact hr Hf1 M1 H1 vs _ z _ s1.wd (RepTs.of s1.wd r1) hz fun v' Hf' H' sm rz => k z Hf' M1 v' H' (s1.trans (Stp.grow s1.wd sm)) rz q
theorem d_callB {id : String} {x : Str} {p : Pos} {g : List Dd → Option Dd} {wr : WA} (hc : CallG X (.builtin id) g) (hg : Gl X x) (hm : X.mg x = none) (hv : bootBuiltins x = some (.builtin id)) (ha : PA X (e :: es) (lowA W wr)) (hn : x ≠ "__name__" := by decide) (hdb : (x == ("__debug__" : Str)) = false := by decide)
    (he : starEach (e :: es) X.env = (false, eval e X.env) :: starEach es X.env := by rfl) (hpl : (backTo pos (starEach es X.env)).any (·.1) = false := by rfl) : PE X (.Call (.Name x p) (e :: es) [] pos) (low W (wCB g wr)) := by
  obtain ⟨r, o, k⟩ := hc
  exact PE.imp (pe_callB o hg hm hv ha hn hdb he hpl) (low_cb k)
theorem d_callTy {T : String} {x : Str} {p : Pos} {g : List Dd → Option Dd} {wr : WA} (hc : CallG X (.type T) g) (hg : Gl X x) (hm : X.mg x = none) (hv : bootBuiltins x = some (.type T)) (ha : PA X (e :: es) (lowA W wr)) (hn : x ≠ "__name__" := by decide) (hdb : (x == ("__debug__" : Str)) = false := by decide)
    (he : starEach (e :: es) X.env = (false, eval e X.env) :: starEach es X.env := by rfl) (hpl : (backTo pos (starEach es X.env)).any (·.1) = false := by rfl) : PE X (.Call (.Name x p) (e :: es) [] pos) (low W (wCB g wr)) := by
  obtain ⟨r, o, k⟩ := hc
  exact PE.imp (pe_callTy o hg hm hv ha hn hdb he hpl) (low_cb k)
/-! ### calls of defs -/
/-- what a def does, by data: arguments, store, what is wanted of the value, of an exception -/
abbrev DSp := List Dd → MS → QD → XD → Prop
def lift (n : Nat) (sp : DSp) : Sp := fun vs H Q E => ∃ ds Hf M Qd Xd, ds.length = n ∧ RepAll Hf vs ds ∧ Wd Hf M H ∧ sp ds M Qd Xd ∧
  (∀ d Hf' M' v H', Stp Hf M H Hf' M' H' → Rep Hf' v d → Qd d M' → Q v H') ∧ (∀ c Hf' M' H', Stp Hf M H Hf' M' H' → Xd c M' → E c none H')
theorem lift_len {n : Nat} {sp : DSp} {vs : List V} {H : Hp} {Q : VK} {E : XK} (h : lift n sp vs H Q E) : vs.length = n := by
  obtain ⟨ds, _, _, _, _, e, r, _⟩ := h
  rw [r.length, e]
/-- a def of the module that keeps its word -/
structure Fn (bm : Bool) (P : Program) (w : World) (K : PySem.W.Frag) (mg : Str → Option Value) (base : Heap) (name : Str) (n k : Nat) (sp : DSp) : Prop where
  ex : ∃ f : Addr, FR bm P w K mg base k f (lift n sp) ∧ mg name = some (.ref f) ∧ PySem.W.keepIn K (.ref f) = true
/-- a call: the number of arguments, the def's word -/
def wCall (n : Nat) (sp : DSp) (wa : WA) : WE := fun sl M Q E => wa sl M (fun ds M1 => ds.length = n ∧ sp ds M1 Q E) E
theorem low_call {n : Nat} {sp : DSp} {wr : WA} {σ : L2.St} {H : Hp} {Q : VK} (h : low W (wCall n sp wr) σ H Q) : lowA W wr σ H fun vs H1 => lift n sp vs H1 Q (fun c d H => W c d σ H) := by
  obtain ⟨sl, Hf, M, Qd, Xd, rl, w, k, kx⟩ := h
  exact ⟨sl, Hf, M, _, Xd, rl, w, fun ds Hf1 M1 vs H1 s1 r1 ⟨hl, q⟩ => ⟨ds, Hf1, M1, Qd, Xd, hl, r1, s1.wd, q, fun d Hf2 M2 v H2 s2 r2 q2 => k d Hf2 M2 v H2 (s1.trans s2) r2 q2, fun c Hf2 M2 H2 s2 q2 => kx c Hf2 M2 H2 (s1.trans s2) q2⟩, kx⟩
theorem d_call {name : Str} {p : Pos} {n k : Nat} {sp : DSp} {wr : WA} (F : Fn bm X.prog X.w X.K X.mg X.base name n k sp) (bA : Bare bm X.A) (hr : Room k X.A) (tk : Takes X W) (hg : Gl X name) (ha : PA X (e :: es) (lowA W wr)) (hdb : (name == ("__debug__" : Str)) = false := by decide)
    (he : starEach (e :: es) X.env = (false, eval e X.env) :: starEach es X.env := by rfl) (hpl : (backTo pos (starEach es X.env)).any (·.1) = false := by rfl) : PE X (.Call (.Name name p) (e :: es) [] pos) (low W (wCall n sp wr)) := by
  obtain ⟨f, F, hm, hk⟩ := F.ex
  constructor
  intro pins s σ H Q I h
  apply wpAny_Call_Name_kw
  apply ld_glob I hg hm _ hdb
  have args := ha.run pos pins s σ H _ I (low_call h)
  apply PySem.W.callWith_K (h₀ := X.base) I.ok.mod.kin hk _ he hpl
  apply thn args
  rintro us s1 ⟨vs, H1, I1, r, q⟩
  exact ⟨I1.kIn, run_G F bA hr (passAt tk σ) I1 r q⟩
end
end DL
/-! DL4: statements; targets, walks, for, comprehensions; a def. -/
namespace DL
open PySem PySem.Spec PyProof.Rows L2
/-- what is wanted behind a statement, by data -/
structure DE where
  nx : DS → MS → Prop
  rt : QD
  bk : DS → MS → Prop
  ct : DS → MS → Prop
  ex : Value → DS → MS → Prop
abbrev WS := DE → DS → MS → Prop
def lowS (W : WX) (w : WS) : TS := fun D σ H => ∃ sl Hf M E, Rl sl Hf M σ H ∧ w E sl M ∧
  (∀ sl' Hf' M' σ' H', Stp Hf M H Hf' M' H' → Rl sl' Hf' M' σ' H' → E.nx sl' M' → D.nx σ' H') ∧
  (∀ d Hf' M' v H', Stp Hf M H Hf' M' H' → Rep Hf' v d → E.rt d M' → D.rt v H') ∧
  (∀ sl' Hf' M' σ' H', Stp Hf M H Hf' M' H' → Rl sl' Hf' M' σ' H' → E.bk sl' M' → D.bk σ' H') ∧
  (∀ sl' Hf' M' σ' H', Stp Hf M H Hf' M' H' → Rl sl' Hf' M' σ' H' → E.ct sl' M' → D.ct σ' H') ∧
  (∀ c sl' Hf' M' σ' H', Stp Hf M H Hf' M' H' → Rl sl' Hf' M' σ' H' → E.ex c sl' M' → W c none σ' H')
section
variable {X : Cx} {W : WX} {e a b c : Expr} {es rest : List Expr} {pos : Pos} {st : Stmt} {sts : List Stmt} {w u : WS} {we : DL.WE} {wt : WT}
theorem PS.imp {t t' : TS} (h : PS X st t) (q : ∀ D σ H, t' D σ H → t D σ H) : PS X st t' := ⟨fun pins s σ H D I z => h.run pins s σ H D I (q D σ H z)⟩
theorem PSs.imp {t t' : TS} (h : PSs X sts t) (q : ∀ D σ H, t' D σ H → t D σ H) : PSs X sts t' := ⟨fun pins s σ H D I z => h.run pins s σ H D I (q D σ H z)⟩
def wNext : WS := fun E sl M => E.nx sl M
def wSeq (w u : WS) : WS := fun E sl M => w { E with nx := u E } sl M
theorem ss_nil : PSs X [] (lowS W wNext) := PSs.imp pss_nil fun D σ H ⟨sl, Hf, M, E, rl, w, k1, _⟩ => k1 sl Hf M σ H (Stp.refl rl.wd) rl w
theorem ss_cons (h1 : PS X st (lowS W w)) (h2 : PSs X sts (lowS W u)) : PSs X (st :: sts) (lowS W (wSeq w u)) :=
  PSs.imp (pss_cons h1 h2) fun D σ H ⟨sl, Hf, M, E, rl, w, k1, k2, k3, k4, k5⟩ => ⟨sl, Hf, M, { E with nx := u E }, rl, w, fun sl1 Hf1 M1 σ1 H1 s1 r1 w1 => ⟨sl1, Hf1, M1, E, r1, w1, fun sl' Hf' M' σ' H' s => k1 sl' Hf' M' σ' H' (s1.trans s), fun d Hf' M' v H' s => k2 d Hf' M' v H' (s1.trans s), fun sl' Hf' M' σ' H' s => k3 sl' Hf' M' σ' H' (s1.trans s), fun sl' Hf' M' σ' H' s => k4 sl' Hf' M' σ' H' (s1.trans s), fun c sl' Hf' M' σ' H' s => k5 c sl' Hf' M' σ' H' (s1.trans s)⟩, k2, k3, k4, k5⟩
theorem ss_one (h1 : PS X st (lowS W w)) : PSs X [st] (lowS W w) := pss_one h1
theorem s_pass : PS X (.Pass pos) (lowS W wNext) := PS.imp ps_pass fun D σ H ⟨sl, Hf, M, E, rl, w, k1, _⟩ => k1 sl Hf M σ H (Stp.refl rl.wd) rl w
def wBreak : WS := fun E sl M => E.bk sl M
def wCont : WS := fun E sl M => E.ct sl M
theorem s_break : PS X (.Break pos) (lowS W wBreak) := PS.imp ps_break fun D σ H ⟨sl, Hf, M, E, rl, w, _, _, k3, _⟩ => k3 sl Hf M σ H (Stp.refl rl.wd) rl w
theorem s_continue : PS X (.Continue pos) (lowS W wCont) := PS.imp ps_continue fun D σ H ⟨sl, Hf, M, E, rl, w, _, _, _, k4, _⟩ => k4 sl Hf M σ H (Stp.refl rl.wd) rl w
/-- an expression in a statement -/
theorem low_in {Q : VK} {σ : L2.St} {H Hf : Hp} {sl : DS} {M : MS} {E : DE} {Qd : QD} (rl : Rl sl Hf M σ H) (h : we sl M Qd (fun c M => E.ex c sl M)) (kx : ∀ c sl' Hf' M' σ' H', Stp Hf M H Hf' M' H' → Rl sl' Hf' M' σ' H' → E.ex c sl' M' → W c none σ' H')
    (k : ∀ d Hf' M' v H', Stp Hf M H Hf' M' H' → Rep Hf' v d → Qd d M' → Q v H') : low W we σ H Q := ⟨sl, Hf, M, Qd, _, rl, h, k, fun c Hf' M' H' s q => kx c sl Hf' M' σ H' s (rl.step s) q⟩
def wDrop (we : DL.WE) : WS := fun E sl M => we sl M (fun _ M1 => E.nx sl M1) (fun c M => E.ex c sl M)
theorem s_expr (he : PE X e (low W we)) (hs : swapsWith e none pos.line X.env = pure false := by rfl) : PS X (.Expr e pos) (lowS W (wDrop we)) :=
  PS.imp (ps_expr he hs) fun D σ H ⟨sl, Hf, M, E, rl, w, k1, k2, k3, k4, k5⟩ => low_in rl w k5 fun d Hf1 M1 v H1 s1 r1 q => k1 sl Hf1 M1 σ H1 s1 (rl.step s1) q
def wRet (we : DL.WE) : WS := fun E sl M => we sl M E.rt (fun c M => E.ex c sl M)
theorem s_ret (he : PE X e (low W we)) : PS X (.Return (some e) pos) (lowS W (wRet we)) :=
  PS.imp (ps_ret he) fun D σ H ⟨sl, Hf, M, E, rl, w, k1, k2, k3, k4, k5⟩ => low_in rl w k5 k2
def wIfS (wt : WT) (w u : WS) : WS := fun E sl M => wt sl M (fun k M1 => if k = true then w E sl M1 else u E sl M1) (fun c M => E.ex c sl M)
theorem s_if {x y : List Stmt} (hc : PT X c (lowT W wt)) (ha : PSs X x (lowS W w)) (hb : PSs X y (lowS W u)) : PS X (.If c x y pos) (lowS W (wIfS wt w u)) := by
  refine PS.imp (ps_if hc ha hb) fun D σ H ⟨sl, Hf, M, E, rl, w, k1, k2, k3, k4, k5⟩ => ⟨sl, Hf, M, _, _, rl, w, fun d Hf1 M1 H1 s1 w1 => ?_, fun c Hf' M' H' s q => k5 c sl Hf' M' σ H' s (rl.step s) q⟩
  cases d with
  | true => exact ⟨sl, Hf1, M1, E, rl.step s1, w1, fun sl' Hf' M' σ' H' s => k1 sl' Hf' M' σ' H' (s1.trans s), fun d Hf' M' v H' s => k2 d Hf' M' v H' (s1.trans s), fun sl' Hf' M' σ' H' s => k3 sl' Hf' M' σ' H' (s1.trans s), fun sl' Hf' M' σ' H' s => k4 sl' Hf' M' σ' H' (s1.trans s), fun c sl' Hf' M' σ' H' s => k5 c sl' Hf' M' σ' H' (s1.trans s)⟩
  | false => exact ⟨sl, Hf1, M1, E, rl.step s1, w1, fun sl' Hf' M' σ' H' s => k1 sl' Hf' M' σ' H' (s1.trans s), fun d Hf' M' v H' s => k2 d Hf' M' v H' (s1.trans s), fun sl' Hf' M' σ' H' s => k3 sl' Hf' M' σ' H' (s1.trans s), fun sl' Hf' M' σ' H' s => k4 sl' Hf' M' σ' H' (s1.trans s), fun c sl' Hf' M' σ' H' s => k5 c sl' Hf' M' σ' H' (s1.trans s)⟩
/-- x = e -/
def wSet (i : Nat) (we : DL.WE) : WS := fun E sl M => we sl M (fun d M1 => E.nx (sl.set i (some d)) M1) (fun c M => E.ex c sl M)
theorem low_asg {i : Nat} : ∀ D σ H, lowS W (wSet i we) D σ H → tAsg (low W we) (gName i) D σ H := fun D σ H ⟨sl, Hf, M, E, rl, w, k1, k2, k3, k4, k5⟩ =>
  low_in rl w k5 fun d Hf1 M1 v H1 s1 r1 q => k1 _ Hf1 M1 _ H1 s1 ((rl.step s1).set i r1) q
theorem s_set {i : Nat} {x : Str} {pos' : Pos} (hN : X.N.Nodup) (hi : X.N[i]? = some x) (hx : Loc X.env.scope x) (he : PE X e (low W we)) (hs : swapsWith e (some (.Name x pos')) pos.line X.env = pure false := by rfl) (hf : X.fn x = true ∨ X.env.scope.names.lookup x = some .local := by first | exact .inl rfl | exact .inr rfl | assumption) :
    PS X (.Assign [.Name x pos'] e pos) (lowS W (wSet i we)) := PS.imp (ps_set hN hi hx he hs hf) low_asg
/-- a, b = e1, e2: two plain names -/
def wPar (i j : Nat) (wa : WA) : WS := fun E sl M => wa sl M (fun ds M1 => ∃ d1 d2, ds = [d1, d2] ∧ E.nx ((sl.set i (some d1)).set j (some d2)) M1) (fun c M => E.ex c sl M)
theorem s_par {i j : Nat} {x y : Str} {wa : WA} {px py pt : Pos} {kt k2 pt2} (hc : X.calm = true) (hN : X.N.Nodup) (hi : X.N[i]? = some x) (hj : X.N[j]? = some y) (hij : i ≠ j)
    (hx : X.env.scope.names.lookup x = some .local) (hy : X.env.scope.names.lookup y = some .local) (ha : PA X [a, b] (lowA W wa))
    (hw : swappedStores [.Tuple [.Name x px, .Name y py] kt pt] (.Tuple [a, b] k2 pt2) X.env = pure (some [x, y]))
    (hs : swapsWithSole [.Tuple [.Name x px, .Name y py] kt pt] (.Tuple [a, b] k2 pt2) pos.line X.env = pure false := by rfl) :
    PS X (.Assign [.Tuple [.Name x px, .Name y py] kt pt] (.Tuple [a, b] k2 pt2) pos) (lowS W (wPar i j wa)) := by
  refine PS.imp (ps_par hc hN hi hj hij hx hy ha hw hs) fun D σ H ⟨sl, Hf, M, E, rl, w, k1, k2, k3, k4, k5⟩ => ⟨sl, Hf, M, _, _, rl, w, fun ds Hf1 M1 vs H1 s1 r1 w1 => ?_, fun c Hf' M' H' s q => k5 c sl Hf' M' σ H' s (rl.step s) q⟩
  obtain ⟨d1, d2, rfl, q⟩ := w1
  cases r1 with
  | cons h1 r1 =>
    cases r1 with
    | cons h2 r2 =>
      cases r2
      exact ⟨_, _, rfl, k1 _ Hf1 M1 _ H1 s1 (((rl.step s1).set i h1).set j h2) q⟩
/-! ### targets -/
/-- a name, a tuple of names -/
inductive Tg where
  | nm (i : Nat)
  | tp (is : List Nat)
def setAll : List Nat → List Dd → DS → DS
  | i :: is, d :: ds, sl => setAll is ds (sl.set i (some d))
  | _, _, sl => sl
def setAllV : List Nat → List V → L2.St → L2.St
  | i :: is, d :: ds, sl => setAllV is ds (sl.set i (some d))
  | _, _, sl => sl
/-- a tuple's items -/
def tupOf : Dd → Option (List Dd)
  | .tup ds => some ds
  | .utp ds => some ds
  | _ => none
def Tg.put : Tg → Dd → DS → (DS → Prop) → Prop
  | .nm i, d, sl, Q => Q (sl.set i (some d))
  | .tp is, d, sl, Q => ∃ ds, tupOf d = some ds ∧ ds.length = is.length ∧ Q (setAll is ds sl)
def gNs : List Nat → TGs
  | [] => gNil
  | i :: is => gCons (gName i) (gNs is)
def Tg.tg (K : PySem.W.Frag) : Tg → TG
  | .nm i => gName i
  | .tp is => gTup K is.length (gNs is)
theorem g_name {i : Nat} {x : Str} (hN : X.N.Nodup) (hi : X.N[i]? = some x) (hx : Loc X.env.scope x) (hf : X.fn x = true ∨ X.env.scope.names.lookup x = some .local := by first | exact .inl rfl | exact .inr rfl | assumption) : PG X (.Name x pos) ((Tg.nm i).tg X.K) := pg_name hN hi hx hf
theorem g_tup {es : List Expr} {k : Nat} {is : List Nat} (hc : X.calm = true) (h : PGs X es (gNs is))
    (hn : (assignEach es X.env).length = is.length := by rfl) (hst : (assignEach es X.env).findIdx? (·.1) = none := by rfl) : PG X (.Tuple es k pos) ((Tg.tp is).tg X.K) := pg_tup hc h hn hst
theorem gs_nil : PGs X [] (gNs []) := pgs_nil
theorem gs_cons {e : Expr} {es : List Expr} {i : Nat} {is : List Nat} (h1 : PG X e ((Tg.nm i).tg X.K)) (h2 : PGs X es (gNs is))
    (hs : (assignEach (e :: es) X.env).map (·.2) = assign e X.env :: (assignEach es X.env).map (·.2) := by rfl) : PGs X (e :: es) (gNs (i :: is)) := pgs_cons h1 h2 hs
theorem gNs_ok {H : Hp} {Q : L2.St → Hp → Prop} : ∀ {is : List Nat} {vs : List V} {σ : L2.St}, vs.length = is.length → Q (setAllV is vs σ) H → gNs is vs σ H Q
  | [], [], σ, _, q => ⟨rfl, q⟩
  | [], _ :: _, _, h, _ => by cases h
  | _ :: _, [], _, h, _ => by cases h
  | i :: is, v :: vs, σ, h, q => ⟨v, vs, rfl, gNs_ok (is := is) (vs := vs) (Nat.succ.inj h) q⟩
theorem Rl.setAll {Hf : Hp} {M : MS} {H : Hp} : ∀ {is : List Nat} {ds : List Dd} {vs : List V} {sl : DS} {σ : L2.St}, Rl sl Hf M σ H → RepAll Hf vs ds → Rl (setAll is ds sl) Hf M (setAllV is vs σ) H
  | [], _, _, _, _, r, _ => r
  | _ :: _, [], [], _, _, r, .nil => r
  | i :: is, _ :: _, _ :: _, _, _, r, .cons h t => Rl.setAll (is := is) (r.set i h) t
theorem tup_or {Hf : Hp} {v : V} {d : Dd} {ds : List Dd} (r : Rep Hf v d) (hd : tupOf d = some ds) : ∃ a xs, v = .ref a ∧ Rd Hf a (.tup xs) ∧ RepAll Hf xs ds := by
  cases r with
  | tup h _ rr => cases hd; exact ⟨_, _, rfl, .inr ⟨_, h⟩, rr⟩
  | utp h rr => cases hd; exact ⟨_, _, rfl, h, rr⟩
  | _ => cases hd
/-- the target takes d -/
theorem Tg.takes {K : PySem.W.Frag} {t : Tg} {d : Dd} {v : V} {sl : DS} {M : MS} {σ : L2.St} {H Hf : Hp} {Qd : DS → Prop} {Q : L2.St → Hp → Prop} (rl : Rl sl Hf M σ H) (r : Rep Hf v d) (h : t.put d sl Qd)
    (k : ∀ sl' σ', Rl sl' Hf M σ' H → Qd sl' → Q σ' H) : t.tg K v σ H Q := by
  cases t with
  | nm i => exact k _ _ (rl.set i r) h
  | tp is =>
    obtain ⟨ds, hd, hl, q⟩ := h
    obtain ⟨a, xs, rfl, hx, rr⟩ := tup_or r hd
    refine ⟨a, xs, rfl, .inl (rd_mono rl.wd.le hx), by rw [rr.length]; exact hl, gNs_ok (by rw [rr.length]; exact hl) ?_⟩
    exact k _ _ (rl.setAll rr) q
/-- a, b = e -/
def wAsgT (t : Tg) (we : DL.WE) : WS := fun E sl M => we sl M (fun d M1 => t.put d sl (fun sl' => E.nx sl' M1)) (fun c M => E.ex c sl M)
theorem s_asgT {tg e : Expr} {t : Tg} (he : PE X e (low W we)) (hg : PG X tg (t.tg X.K)) (hs : swapsWithSole [tg] e pos.line X.env = pure false := by rfl) (hw : swappedStores [tg] e X.env = pure none := by rfl)
    (h1 : (assignEach [tg] X.env).map (·.2) = [assign tg X.env] := by rfl) : PS X (.Assign [tg] e pos) (lowS W (wAsgT t we)) :=
  PS.imp (ps_asg he hg hs hw h1) fun D σ H ⟨sl, Hf, M, E, rl, w, k1, k2, k3, k4, k5⟩ => low_in rl w k5 fun d Hf1 M1 v H1 s1 r1 q => Tg.takes (rl.step s1) r1 q fun sl' σ' r' q' => k1 sl' Hf1 M1 σ' H1 s1 r' q'
/-! ### walks -/
/-- what is walked gives the data ds, while Hf stands -/
structure WalkD (J : It) (ds : List Dd) (Hf : Hp) : Prop where
  goes : ∀ i H, i < ds.length → Same Hf H → J.go i H
  stops : ∀ H, Same Hf H → J.stop ds.length H
  yields : ∀ i Hf1 H x H', i < ds.length → Same Hf Hf1 → Same Hf1 H → J.yld i H x H' → ∃ Hf2 d, Grow Hf1 H Hf2 H' ∧ ds[i]? = some d ∧ Rep Hf2 x d
def lowI (W : WX) (w : WA) : TI := fun σ H R => ∃ sl Hf M Qd Xd, Rl sl Hf M σ H ∧ w sl M Qd Xd ∧
  (∀ ds Hf' M' J H', Stp Hf M H Hf' M' H' → WalkD J ds Hf' → Qd ds M' → R J H') ∧ (∀ c Hf' M' H', Stp Hf M H Hf' M' H' → Xd c M' → W c none σ H')
theorem PI.imp {tg iter : Expr} {t t' : TI} (h : PI X tg iter t) (q : ∀ σ H R, t' σ H R → t σ H R) : PI X tg iter t' := ⟨fun pins s σ H R I z => h.run pins s σ H R I (q σ H R z)⟩
theorem walkD_list {K : PySem.W.Frag} {a : Addr} {xs : List V} {ds : List Dd} {Hf : Hp} (h : Hf a = some (.lst xs)) (r : RepAll Hf xs ds) : WalkD (Itl K a) ds Hf := by
  have w : Walk (Itl K a) xs.length (fun H => SqL K H a xs) (YAt xs) := walk_list
  refine ⟨fun i H hi s => w.goes i H (by rw [r.length]; exact hi) (.of (s _ _ h)), fun H s => by rw [← r.length]; exact w.stops H (.of (s _ _ h)), fun i Hf1 H x H' hi s s1 y => ?_⟩
  obtain ⟨rfl, y2⟩ := w.yields i H x H' (by rw [r.length]; exact hi) (.of (s1 _ _ (s _ _ h))) y
  obtain ⟨d, h1, h2⟩ := r.get y2
  exact ⟨Hf1, d, Grow.refl s1, h1, h2.mono s⟩
theorem walkD_tup {K : PySem.W.Frag} {a : Addr} {xs : List V} {ds : List Dd} {Hf : Hp} (h : Rd Hf a (.tup xs)) (r : RepAll Hf xs ds) : WalkD (Itt K a) ds Hf := by
  have w : Walk (Itt K a) xs.length (fun H => SqT K H a xs) (YAt xs) := walk_tup
  refine ⟨fun i H hi s => w.goes i H (by rw [r.length]; exact hi) (.inl (rd_mono s h)), fun H s => by rw [← r.length]; exact w.stops H (.inl (rd_mono s h)), fun i Hf1 H x H' hi s s1 y => ?_⟩
  obtain ⟨rfl, y2⟩ := w.yields i H x H' (by rw [r.length]; exact hi) (.inl (rd_mono s1 (rd_mono s h))) y
  obtain ⟨d, h1, h2⟩ := r.get y2
  exact ⟨Hf1, d, Grow.refl s1, h1, h2.mono s⟩
/-- over a list | a tuple that is data -/
def wIL (we : DL.WE) : WA := fun sl M Q E => we sl M (fun d M1 => ∃ ds, d = .lst ds ∧ Q ds M1) E
def wIT (we : DL.WE) : WA := fun sl M Q E => we sl M (fun d M1 => ∃ ds, der M1 d = .tup ds ∧ Q ds M1) E
theorem i_list {tg l : Expr} (hl : PE X l (low W we)) : PI X tg l (lowI W (wIL we)) := by
  refine PI.imp (pi_list hl) fun σ H R ⟨sl, Hf, M, Qd, Xd, rl, w, k, kx⟩ => ⟨sl, Hf, M, _, Xd, rl, w, fun d Hf1 M1 v H1 s1 r1 w1 => ?_, kx⟩
  obtain ⟨ds, rfl, q⟩ := w1
  cases r1 with
  | @lst a xs _ h r => exact ⟨a, rfl, ⟨xs, .of (s1.wd.le _ _ h)⟩, k ds Hf1 M1 _ H1 s1 (walkD_list h r) q⟩
theorem i_tup {tg l : Expr} (hl : PE X l (low W we)) : PI X tg l (lowI W (wIT we)) := by
  refine PI.imp (pi_tup hl) fun σ H R ⟨sl, Hf, M, Qd, Xd, rl, w, k, kx⟩ => ⟨sl, Hf, M, _, Xd, rl, w, fun d Hf1 M1 v H1 s1 r1 w1 => ?_, kx⟩
  obtain ⟨ds, ed, q⟩ := w1
  have rt := RepT.of s1.wd r1
  rw [ed] at rt
  obtain ⟨a, xs, rfl, h, r⟩ := rt.tup
  exact ⟨a, rfl, ⟨xs, .inl (rd_mono s1.wd.le h)⟩, k ds Hf1 M1 _ H1 s1 (walkD_tup h r) q⟩
/-- range(n), range(a, b) -/
def rng (lo : Int) (n : Nat) : List Dd := (List.range n).map fun (i : Nat) => Dd.int (lo + (i : Int))
theorem rng_length (lo : Int) (n : Nat) : (rng lo n).length = n := by simp [rng]
theorem rng_get {lo : Int} {n i : Nat} (h : i < n) : (rng lo n)[i]? = some (.int (lo + i)) := by simp [rng, h]
theorem walkD_rng {lo : Int} {n : Nat} {Hf : Hp} : WalkD (Itr lo n) (rng lo n) Hf := by
  refine ⟨fun i H hi s => walk_range.goes i H (by rw [rng_length] at hi; exact hi) True.intro, fun H s => by rw [rng_length]; exact walk_range.stops H True.intro, fun i Hf1 H x H' hi s s1 y => ?_⟩
  rw [rng_length] at hi
  obtain ⟨rfl, rfl⟩ := walk_range.yields i H x H' hi True.intro y
  exact ⟨Hf1, _, Grow.refl s1, rng_get hi, .int _⟩
def wIR1 (wa : WA) : WA := fun sl M Q E => wa sl M (fun ds M1 => ∃ j : Int, ds = [.int j] ∧ -(2 ^ 62) ≤ j ∧ j < 2 ^ 62 ∧ Q (rng 0 j.toNat) M1) E
def wIR2 (wa : WA) : WA := fun sl M Q E => wa sl M (fun ds M1 => ∃ i j : Int, ds = [.int i, .int j] ∧ (-(2 ^ 62) ≤ i ∧ i < 2 ^ 62 ∧ -(2 ^ 62) ≤ j ∧ j < 2 ^ 62) ∧ Q (rng i (j - i).toNat) M1) E
theorem i_range1 {tg : Expr} {p : Pos} {wa : WA} (hg : Gl X "range") (hm : X.mg "range" = none) (ha : PA X [a] (lowA W wa)) (hs : starEach [a] X.env = [(false, eval a X.env)] := by rfl) : PI X tg (.Call (.Name "range" p) [a] [] pos) (lowI W (wIR1 wa)) := by
  refine PI.imp (pi_range1 hg hm ha hs) fun σ H R ⟨sl, Hf, M, Qd, Xd, rl, w, k, kx⟩ => ⟨sl, Hf, M, _, Xd, rl, w, fun ds Hf1 M1 vs H1 s1 r1 w1 => ?_, kx⟩
  obtain ⟨j, rfl, h1, h2, q⟩ := w1
  cases r1 with
  | cons h r =>
    cases r
    cases h
    exact ⟨j, rfl, h1, h2, k _ Hf1 M1 _ H1 s1 walkD_rng q⟩
theorem i_range2 {tg : Expr} {p : Pos} {wa : WA} (hg : Gl X "range") (hm : X.mg "range" = none) (ha : PA X [a, b] (lowA W wa)) (hs : starEach [a, b] X.env = [(false, eval a X.env), (false, eval b X.env)] := by rfl) (hs2 : starEach [b] X.env = [(false, eval b X.env)] := by rfl) :
    PI X tg (.Call (.Name "range" p) [a, b] [] pos) (lowI W (wIR2 wa)) := by
  refine PI.imp (pi_range2 hg hm ha hs hs2) fun σ H R ⟨sl, Hf, M, Qd, Xd, rl, w, k, kx⟩ => ⟨sl, Hf, M, _, Xd, rl, w, fun ds Hf1 M1 vs H1 s1 r1 w1 => ?_, kx⟩
  obtain ⟨i, j, rfl, h1, q⟩ := w1
  cases r1 with
  | cons h r =>
    cases r with
    | cons h2 r =>
      cases r
      cases h
      cases h2
      exact ⟨i, j, rfl, h1, k _ Hf1 M1 _ H1 s1 walkD_rng q⟩
/-! ### for -/
def forGo (t : Tg) (tb : WS) (E : DE) : List Dd → DS → MS → Prop
  | [], sl, M => E.nx sl M
  | d :: ds, sl, M => t.put d sl fun sl1 => tb { E with nx := forGo t tb E ds, ct := forGo t tb E ds, bk := E.nx } sl1 M
def wFor (wi : WA) (t : Tg) (tb : WS) : WS := fun E sl M => wi sl M (fun ds M1 => forGo t tb E ds sl M1) (fun c M => E.ex c sl M)
theorem s_for {tg iter : Expr} {body : List Stmt} {wi : WA} {t : Tg} {tb : WS} (hp : PassesOwn (model X.prog X.w) X.A X.env X.xe) (hc : X.calm = true) (hi : PI X tg iter (lowI W wi)) (hg : PG X tg (t.tg X.K)) (hb : PSs X body (lowS W tb))
    (hs : ∀ x, foldedSetIterable iter X.env x = pure x := by intro _; rfl) : PS X (.For tg iter body [] pos) (lowS W (wFor wi t tb)) := by
  refine PS.imp (ps_for hp hc hi hg hb hs) fun D σ H ⟨sl, Hf, M, E, rl, w, k1, k2, k3, k4, k5⟩ => ⟨sl, Hf, M, _, _, rl, w, fun ds Hf1 M1 J H1 s1 wd w1 => ?_, fun c Hf' M' H' s q => k5 c sl Hf' M' σ H' s (rl.step s) q⟩
  refine ⟨fun i m σ H => m = ds.length - i ∧ i ≤ ds.length ∧ ∃ sl Hf M, Rl sl Hf M σ H ∧ Stp Hf1 M1 H1 Hf M H ∧ forGo t tb E (ds.drop i) sl M, ⟨ds.length, by simp, Nat.zero_le _, sl, Hf1, M1, rl.step s1, Stp.refl s1.wd, by simpa using w1⟩, ?_⟩
  rintro i m σ2 H2 ⟨rfl, hi, sl2, Hf2, M2, rl2, st2, g2⟩
  have sf : Same Hf1 H2 := st2.up.trans st2.wd.le
  by_cases hlt : i < ds.length
  · refine .inr ⟨wd.goes i H2 hlt sf, fun σ H => ∃ sl Hf M, Rl sl Hf M σ H ∧ Stp Hf1 M1 H1 Hf M H ∧ forGo t tb E (ds.drop (i + 1)) sl M, fun σ' H' h => ⟨ds.length - (i + 1), by omega, rfl, hlt, h⟩, fun x H3 y => ?_⟩
    obtain ⟨Hf3, d, gr, hd, rd⟩ := wd.yields i Hf2 H2 x H3 hlt st2.up st2.wd.le y
    have s3 : Stp Hf2 M2 H2 Hf3 M2 H3 := Stp.grow st2.wd gr
    rw [List.drop_eq_getElem_cons hlt] at g2
    have ed : ds[i] = d := by
      rw [List.getElem?_eq_getElem hlt] at hd
      exact Option.some.inj hd
    rw [ed] at g2
    refine Tg.takes (rl2.step s3) rd g2 fun sl' σ' r' q' => ?_
    have s4 : Stp Hf1 M1 H1 Hf3 M2 H3 := st2.trans s3
    refine ⟨sl', Hf3, M2, _, r', q', fun sl'' Hf' M' σ'' H' s r q => ⟨sl'', Hf', M', r, s4.trans s, q⟩, fun d Hf' M' v H' s => k2 d Hf' M' v H' ((s1.trans s4).trans s), fun sl'' Hf' M' σ'' H' s => k1 sl'' Hf' M' σ'' H' ((s1.trans s4).trans s), fun sl'' Hf' M' σ'' H' s r q => ⟨sl'', Hf', M', r, s4.trans s, q⟩, fun c sl'' Hf' M' σ'' H' s => k5 c sl'' Hf' M' σ'' H' ((s1.trans s4).trans s)⟩
  · have e : i = ds.length := by omega
    subst e
    rw [List.drop_length] at g2
    exact .inl ⟨wd.stops H2 sf, k1 sl2 Hf2 M2 σ2 H2 (s1.trans st2) rl2 g2⟩
end
end DL
/-! DL5: comprehensions; a def; lists that change. -/
namespace DL
open PySem PySem.Spec PyProof.Rows L2
section
variable {Hf H Hf1 H1 : Hp} {M M1 : MS} {p : Addr} {u : HO}
/-- an object of one's own, not known of: it changes; it is taken up as data, as a mutable thing -/
theorem Stp.other (s : Stp Hf1 M1 H1 Hf M H) (h1 : H1 p = none) (h2 : Hf p = none) (h3 : M p = none) : Stp Hf1 M1 H1 Hf M (upd H p u) := by
  refine ⟨s.up, ⟨fun a o e => ?_, fun a mo e => ?_⟩, fun a o q1 q2 q3 => ?_⟩
  · have ne : a ≠ p := ne_of_none e h2
    rw [upd_ne ne]
    exact s.wd.fz a o e
  · have ne : a ≠ p := fun q => by subst q; rw [h3] at e; cases e
    exact (s.wd.ok a mo e).mono (Same.refl _) fun o z => by rw [upd_ne ne]; exact z
  · have ne : a ≠ p := ne_of_none q3 h1
    rw [upd_ne ne]
    exact s.fr a o q1 q2 q3
theorem Stp.adopt (s : Stp Hf1 M1 H1 Hf M H) (h1 : H1 p = none) (h2 : Hf p = none) (h3 : M p = none) (h4 : H p = some u) : Stp Hf1 M1 H1 (upd Hf p u) M H := by
  have sm : Same Hf (upd Hf p u) := same_new h2
  refine ⟨s.up.trans sm, ⟨fun a o e => ?_, fun a mo e => (s.wd.ok a mo e).mono sm fun o z => z⟩, fun a o q1 q2 q3 => ?_⟩
  · by_cases q : a = p
    · subst q
      rw [upd_same] at e
      cases e
      exact ⟨h4, h3⟩
    · rw [upd_ne q] at e
      exact s.wd.fz a o e
  · have ne : a ≠ p := ne_of_none q3 h1
    rw [upd_ne ne]
    exact s.fr a o q1 q2 q3
theorem Stp.adoptM {mo : MO} (s : Stp Hf1 M1 H1 Hf M H) (h1 : H1 p = none) (h2 : Hf p = none) (h3 : MObj Hf H p mo) : Stp Hf1 M1 H1 Hf (updM M p mo) H := by
  refine ⟨s.up, ⟨fun a o e => ?_, fun a mo' e => ?_⟩, fun a o q1 q2 q3 => ?_⟩
  · have ne : a ≠ p := ne_of_none e h2
    rw [updM_ne ne]
    exact s.wd.fz a o e
  · by_cases q : a = p
    · subst q
      rw [updM_same] at e
      cases e
      exact h3
    · rw [updM_ne q] at e
      exact s.wd.ok a mo' e
  · have ne : a ≠ p := ne_of_none q3 h1
    rw [updM_ne ne]
    exact s.fr a o q1 q2 q3
end
/-! ### comprehensions -/
abbrev W0 : WX := fun _ _ _ _ => False
abbrev X0 : XD := fun _ _ => False
def wipeD (sl : DS) : List Nat → DS
  | [] => sl
  | v :: vs => (wipeD sl vs).set v none
theorem Rl.none {sl : DS} {Hf : Hp} {M : MS} {σ : L2.St} {H : Hp} (r : Rl sl Hf M σ H) (i : Nat) : Rl (sl.set i none) Hf M (σ.set i none) H := by
  refine ⟨by rw [List.length_set, List.length_set, r.len], fun j e q => ?_, r.wd⟩
  by_cases hj : i = j
  · subst hj
    by_cases hi : i < sl.length
    · rw [List.getElem?_set_self hi] at q
      cases q
    · rw [List.getElem?_eq_none (by simpa using hi)] at q
      cases q
  · rw [List.getElem?_set_ne hj] at q ⊢
    exact r.at_ j e q
theorem Rl.wipe {sl : DS} {Hf : Hp} {M : MS} {σ : L2.St} {H : Hp} (r : Rl sl Hf M σ H) : ∀ vs : List Nat, Rl (wipeD sl vs) Hf M (L2.wipe σ vs) H
  | [] => r
  | v :: vs => (r.wipe vs).none v
theorem wipe_set {σ : L2.St} {j : Nat} {y : Option V} : ∀ {vs : List Nat}, j ∈ vs → L2.wipe (σ.set j y) vs = L2.wipe σ vs
  | [], h => by cases h
  | v :: vs, h => by
    by_cases hj : j ∈ vs
    · show (L2.wipe (σ.set j y) vs).set v none = (L2.wipe σ vs).set v none
      rw [wipe_set hj]
    · have e : j = v := by
        rcases List.mem_cons.mp h with e | e
        · exact e
        · exact absurd e hj
      subst e
      show (L2.wipe (σ.set j y) vs).set j none = (L2.wipe σ vs).set j none
      have : ∀ (us : List Nat), j ∉ us → L2.wipe (σ.set j y) us = (L2.wipe σ us).set j y := by
        intro us
        induction us with
        | nil => intro _; rfl
        | cons u us ih =>
          intro hn
          have hu : j ≠ u := fun e => hn (by rw [e]; exact List.mem_cons_self)
          show (L2.wipe (σ.set j y) us).set u none = ((L2.wipe σ us).set u none).set j y
          rw [ih (fun z => hn (List.mem_cons_of_mem _ z)), List.set_comm _ _ hu]
      rw [this vs hj, List.set_set]
theorem wipe_wipe {σ : L2.St} (vs : List Nat) : L2.wipe (L2.wipe σ vs) vs = L2.wipe σ vs := by
  have all : ∀ us : List Nat, (∀ u ∈ us, u ∈ vs) → L2.wipe (L2.wipe σ us) vs = L2.wipe σ vs := by
    intro us
    induction us with
    | nil => intro _; rfl
    | cons u us ih =>
      intro h
      show L2.wipe ((L2.wipe σ us).set u none) vs = _
      rw [wipe_set (h u List.mem_cons_self), ih fun z hz => h z (List.mem_cons_of_mem _ hz)]
  exact all vs fun _ h => h
def Tg.idx : Tg → List Nat
  | .nm i => [i]
  | .tp is => is
theorem wipe_setAll {vs : List Nat} : ∀ {is : List Nat} {xs : List V} {σ : L2.St}, (∀ i ∈ is, i ∈ vs) → L2.wipe (setAllV is xs σ) vs = L2.wipe σ vs
  | [], _, _, _ => by unfold setAllV; rfl
  | _ :: _, [], _, _ => by unfold setAllV; rfl
  | i :: is, x :: xs, σ, h => by
    show L2.wipe (setAllV is xs (σ.set i (some x))) vs = _
    rw [wipe_setAll fun j hj => h j (List.mem_cons_of_mem _ hj), wipe_set (h i List.mem_cons_self)]
theorem Tg.takesW {K : PySem.W.Frag} {t : Tg} {d : Dd} {v : V} {sl : DS} {M : MS} {σ : L2.St} {H Hf : Hp} {vs : List Nat} {Qd : DS → Prop} {Q : L2.St → Hp → Prop} (hv : ∀ i ∈ t.idx, i ∈ vs) (rl : Rl sl Hf M σ H) (r : Rep Hf v d) (h : t.put d sl Qd)
    (k : ∀ sl' σ', Rl sl' Hf M σ' H → L2.wipe σ' vs = L2.wipe σ vs → Qd sl' → Q σ' H) : t.tg K v σ H Q := by
  cases t with
  | nm i => exact k _ _ (rl.set i r) (wipe_set (hv i (by simp [Tg.idx]))) h
  | tp is =>
    obtain ⟨ds, hd, hl, q⟩ := h
    obtain ⟨a, xs, rfl, hx, rr⟩ := tup_or r hd
    refine ⟨a, xs, rfl, .inl (rd_mono rl.wd.le hx), by rw [rr.length]; exact hl, gNs_ok (by rw [rr.length]; exact hl) ?_⟩
    exact k _ _ (rl.setAll rr) (wipe_setAll hv) q
def lcGo (t : Tg) (wt : WT) (we : DL.WE) (sl : DS) (Q : List Dd → MS → Prop) : List Dd → List Dd → MS → Prop
  | [], acc, M => Q acc M
  | d :: ds, acc, M => t.put d sl fun sl1 => wt sl1 M (fun b M1 => if b = true then we sl1 M1 (fun y M2 => acc.length < 90000 ∧ lcGo t wt we sl Q ds (acc ++ [y]) M2) X0 else lcGo t wt we sl Q ds acc M1) X0
def wLc (wi : WA) (t : Tg) (wt : WT) (we : DL.WE) (vs : List Nat) : DL.WE := fun sl M Q E => wi sl M (fun ds M1 => lcGo t wt we (wipeD sl vs) (fun acc M2 => Q (.lst acc) M2) ds [] M1) E
/-- a list that will change -/
def wLcN (wi : WA) (t : Tg) (wt : WT) (we : DL.WE) (vs : List Nat) : DL.WE := fun sl M Q E => wi sl M (fun ds M1 => lcGo t wt we (wipeD sl vs) (fun acc M2 => ∀ p, M2 p = none → Q (.raw (.ref p)) (updM M2 p (.lst acc))) ds [] M1) E
def wYes : WT := fun _ M Q _ => Q true M
section
variable {X : Cx} {W : WX} {pos : Pos}
theorem PTs.imp {ifs : List Expr} {t t' : TT} (h : PTs X ifs t) (q : ∀ σ H Q, t' σ H Q → t σ H Q) : PTs X ifs t' := ⟨fun pins s σ H Q I z => h.run pins s σ H Q I (q σ H Q z)⟩
theorem ts_nil : PTs X [] (lowT W wYes) := PTs.imp pts_nil fun σ H Q ⟨sl, Hf, M, Qd, Xd, rl, w, k, _⟩ => k true Hf M H (Stp.refl rl.wd) w
theorem ts_one {c : Expr} {wt : WT} (h : PT X c (lowT W wt)) : PTs X [c] (lowT W wt) := pts_one h
theorem low_lcG {wi : WA} {t : Tg} {wt : WT} {we : DL.WE} {vs : List Nat} {K : PySem.W.Frag} {σ : L2.St} {H Hf : Hp} {Q : VK} {sl : DS} {M : MS} {Xd : XD} {Qd : List Dd → MS → Prop} (hv : ∀ i ∈ t.idx, i ∈ vs) (rl : Rl sl Hf M σ H)
    (w : wi sl M (fun ds M1 => lcGo t wt we (wipeD sl vs) Qd ds [] M1) Xd) (kx : ∀ c Hf' M' H', Stp Hf M H Hf' M' H' → Xd c M' → W c none σ H')
    (k : ∀ Hf1 M1 H1 Hf2 M2 H2 D xs acc, Stp Hf M H Hf1 M1 H1 → Stp Hf1 M1 H1 Hf2 M2 H2 → H1 D = none → Hf2 D = none → M2 D = none → H2 D = some (.lst xs) → RepAll Hf2 xs acc → Qd acc M2 → Q (.ref D) H2) : tLc (lowI W wi) (t.tg K) (lowT W0 wt) (low W0 we) vs σ H Q := by
  refine ⟨sl, Hf, M, _, Xd, rl, w, fun ds Hf1 M1 J H1 s1 wd w1 D hD => ?_, kx⟩
  refine ⟨fun i m H => m = ds.length - i ∧ i ≤ ds.length ∧ ∃ Hf2 M2 acc xs, Stp Hf1 M1 H1 Hf2 M2 H ∧ Hf2 D = none ∧ M2 D = none ∧ H D = some (.lst xs) ∧ RepAll Hf2 xs acc ∧ lcGo t wt we (wipeD sl vs) Qd (ds.drop i) acc M2, ⟨ds.length, by simp, Nat.zero_le _, Hf1, M1, [], [], ?_, (s1.wd.free hD).2, (s1.wd.free hD).1, upd_same, .nil, by simpa using w1⟩, ?_⟩
  · exact (Stp.refl s1.wd).other hD (s1.wd.free hD).2 (s1.wd.free hD).1
  rintro i m H2 ⟨rfl, hi, Hf2, M2, acc, xs, st2, f2, m2, h2, r2, g2⟩
  have sf : Same Hf1 H2 := st2.up.trans st2.wd.le
  by_cases hlt : i < ds.length
  · refine .inr ⟨wd.goes i H2 hlt sf, fun H => ∃ Hf2 M2 acc xs, Stp Hf1 M1 H1 Hf2 M2 H ∧ Hf2 D = none ∧ M2 D = none ∧ H D = some (.lst xs) ∧ RepAll Hf2 xs acc ∧ lcGo t wt we (wipeD sl vs) Qd (ds.drop (i + 1)) acc M2, fun H' h => ⟨ds.length - (i + 1), by omega, rfl, hlt, h⟩, fun x H3 y => ?_⟩
    obtain ⟨Hf3, d, gr, hd, rd⟩ := wd.yields i Hf2 H2 x H3 hlt st2.up st2.wd.le y
    have s3 : Stp Hf2 M2 H2 Hf3 M2 H3 := Stp.grow st2.wd gr
    rw [List.drop_eq_getElem_cons hlt] at g2
    have ed : ds[i] = d := by
      rw [List.getElem?_eq_getElem hlt] at hd
      exact Option.some.inj hd
    rw [ed] at g2
    have rl3 : Rl (wipeD sl vs) Hf3 M2 (L2.wipe σ vs) H3 := (rl.step (s1.trans (st2.trans s3))).wipe vs
    refine Tg.takesW hv rl3 rd g2 fun sl' σ' r' hw' q' => ⟨?_, ?_⟩
    · rw [hw', wipe_wipe]
    refine ⟨sl', Hf3, M2, _, _, r', q', fun b Hf4 M4 H4 s4 w4 => ?_, fun c _ _ _ _ z => z⟩
    obtain ⟨d3, f3, m3⟩ := s3.fr D _ f2 m2 h2
    obtain ⟨d4, f4, m4⟩ := s4.fr D _ f3 m3 d3
    have st4 : Stp Hf1 M1 H1 Hf4 M4 H4 := (st2.trans s3).trans s4
    cases b with
    | false =>
      exact ⟨Hf4, M4, acc, xs, st4, f4, m4, d4, r2.mono (s3.up.trans s4.up), w4⟩
    | true =>
      refine ⟨sl', Hf4, M4, _, _, r'.step s4, w4, fun yd Hf5 M5 yv H5 s5 r5 ⟨hz, w5⟩ => ?_, fun c _ _ _ _ z => z⟩
      obtain ⟨d5, f5, m5⟩ := s5.fr D _ f4 m4 d4
      have r25 : RepAll Hf5 xs acc := r2.mono ((s3.up.trans s4.up).trans s5.up)
      refine ⟨xs, d5, by rw [r25.length]; exact sz5lt (by omega), Hf5, M5, acc ++ [yd], xs ++ [yv], (st4.trans s5).other hD f5 m5, f5, m5, upd_same, r25.append (.cons r5 .nil), w5⟩
  · have e : i = ds.length := by omega
    subst e
    rw [List.drop_length] at g2
    exact .inl ⟨wd.stops H2 sf, k Hf1 M1 H1 Hf2 M2 H2 D xs acc s1 st2 hD f2 m2 h2 r2 g2⟩
theorem low_lc {wi : WA} {t : Tg} {wt : WT} {we : DL.WE} {vs : List Nat} {K : PySem.W.Frag} (hv : ∀ i ∈ t.idx, i ∈ vs) : ∀ σ H Q, low W (wLc wi t wt we vs) σ H Q → tLc (lowI W wi) (t.tg K) (lowT W0 wt) (low W0 we) vs σ H Q :=
  fun σ H Q ⟨sl, Hf, M, Qd, Xd, rl, w, k, kx⟩ => low_lcG hv rl w kx fun Hf1 M1 H1 Hf2 M2 H2 D xs acc s1 s2 d1 f2 m2 h2 r2 q =>
    k (.lst acc) _ M2 (.ref D) H2 (s1.trans (s2.adopt d1 f2 m2 h2)) (.lst upd_same (r2.mono (same_new f2))) q
theorem low_lcN {wi : WA} {t : Tg} {wt : WT} {we : DL.WE} {vs : List Nat} {K : PySem.W.Frag} (hv : ∀ i ∈ t.idx, i ∈ vs) : ∀ σ H Q, low W (wLcN wi t wt we vs) σ H Q → tLc (lowI W wi) (t.tg K) (lowT W0 wt) (low W0 we) vs σ H Q :=
  fun σ H Q ⟨sl, Hf, M, Qd, Xd, rl, w, k, kx⟩ => low_lcG hv rl w kx fun Hf1 M1 H1 Hf2 M2 H2 D xs acc s1 s2 d1 f2 m2 h2 r2 q =>
    k (.raw (.ref D)) Hf2 _ (.ref D) H2 (s1.trans (s2.adoptM (mo := .lst acc) d1 f2 ⟨xs, h2, r2⟩)) (.raw _) (q D m2)
theorem d_lc {elt tg iter : Expr} {ifs : List Expr} {scope : Scope} {own : List (Str × Nat)} {wi : WA} {t : Tg} {wt : WT} {we : DL.WE} (hc : X.calm = true) (hN : X.N.Nodup) (hi : PI X tg iter (lowI W wi)) (ok : BlkOk X.N X.env.scope scope own)
    (hg : ∀ (s : Shared) (H : Hp) (C : Addr) (cl : List (Str × Addr)) (fp : List Addr), PG (X.blk s H scope (compEnvC scope cl C X.env) fp) tg (t.tg X.K)) (ht : ∀ (s : Shared) (H : Hp) (C : Addr) (cl : List (Str × Addr)) (fp : List Addr), PTs (X.blk s H scope (compEnvC scope cl C X.env) fp) ifs (lowT W0 wt))
    (he : ∀ (s : Shared) (H : Hp) (C : Addr) (cl : List (Str × Addr)) (fp : List Addr), PE (X.blk s H scope (compEnvC scope cl C X.env) fp) elt (low W0 we)) (hv : (t.idx.all fun i => (own.map (·.2)).contains i) = true := by rfl) (hs : ∀ x, foldedSetIterable iter X.env x = pure x := by intro _; rfl) :
    PE X (.ListComp elt [⟨tg, iter, ifs, 0⟩] scope pos) (low W (wLc wi t wt we (own.map (·.2)))) :=
  PE.imp (pe_lc hc hN hi ok hg ht he hs) (low_lc fun i h => by simpa using List.all_eq_true.mp hv i h)
theorem d_lcN {elt tg iter : Expr} {ifs : List Expr} {scope : Scope} {own : List (Str × Nat)} {wi : WA} {t : Tg} {wt : WT} {we : DL.WE} (hc : X.calm = true) (hN : X.N.Nodup) (hi : PI X tg iter (lowI W wi)) (ok : BlkOk X.N X.env.scope scope own)
    (hg : ∀ (s : Shared) (H : Hp) (C : Addr) (cl : List (Str × Addr)) (fp : List Addr), PG (X.blk s H scope (compEnvC scope cl C X.env) fp) tg (t.tg X.K)) (ht : ∀ (s : Shared) (H : Hp) (C : Addr) (cl : List (Str × Addr)) (fp : List Addr), PTs (X.blk s H scope (compEnvC scope cl C X.env) fp) ifs (lowT W0 wt))
    (he : ∀ (s : Shared) (H : Hp) (C : Addr) (cl : List (Str × Addr)) (fp : List Addr), PE (X.blk s H scope (compEnvC scope cl C X.env) fp) elt (low W0 we)) (hv : (t.idx.all fun i => (own.map (·.2)).contains i) = true := by rfl) (hs : ∀ x, foldedSetIterable iter X.env x = pure x := by intro _; rfl) :
    PE X (.ListComp elt [⟨tg, iter, ifs, 0⟩] scope pos) (low W (wLcN wi t wt we (own.map (·.2)))) :=
  PE.imp (pe_lc hc hN hi ok hg ht he hs) (low_lcN fun i h => by simpa using List.all_eq_true.mp hv i h)
/-- name = [..] -/
theorem s_setLc {i : Nat} {y : Str} {py spos : Pos} {elt tg iter : Expr} {ifs : List Expr} {scope : Scope} {own : List (Str × Nat)} {wi : WA} {t : Tg} {wt : WT} {we : DL.WE} (hc : X.calm = true) (hN : X.N.Nodup) (hy : X.N[i]? = some y) (hyl : X.env.scope.names.lookup y = some .local)
    (hsw : swapsWith (.ListComp elt [⟨tg, iter, ifs, 0⟩] scope pos) (some (.Name y py)) spos.line X.env = pure true) (hi : PI X tg iter (lowI W wi)) (ok : BlkOk X.N X.env.scope scope own)
    (hg : ∀ (s : Shared) (H : Hp) (C : Addr) (cl : List (Str × Addr)) (fp : List Addr), PG (X.blk s H scope (compEnvC scope cl C X.env) fp) tg (t.tg X.K)) (ht : ∀ (s : Shared) (H : Hp) (C : Addr) (cl : List (Str × Addr)) (fp : List Addr), PTs (X.blk s H scope (compEnvC scope cl C X.env) fp) ifs (lowT W0 wt))
    (he : ∀ (s : Shared) (H : Hp) (C : Addr) (cl : List (Str × Addr)) (fp : List Addr), PE (X.blk s H scope (compEnvC scope cl C X.env) fp) elt (low W0 we)) (hv : (t.idx.all fun i => (own.map (·.2)).contains i) = true := by rfl) (hs : ∀ x, foldedSetIterable iter X.env x = pure x := by intro _; rfl) :
    PS X (.Assign [.Name y py] (.ListComp elt [⟨tg, iter, ifs, 0⟩] scope pos) spos) (lowS W (wSet i (wLc wi t wt we (own.map (·.2))))) :=
  PS.imp (ps_setLc hc hN hy hyl hsw hi ok hg ht he hs) fun D σ H ⟨sl, Hf, M, E, rl, w, k1, k2, k3, k4, k5⟩ =>
    low_lc (W := W) (fun i h => by simpa using List.all_eq_true.mp hv i h) σ H _ (low_in (E := E) (Qd := fun d M1 => E.nx (sl.set i (some d)) M1) rl w k5 fun d Hf1 M1 v H1 s1 r1 q => k1 _ Hf1 M1 _ H1 s1 ((rl.step s1).set i r1) q)
theorem s_setLcN {i : Nat} {y : Str} {py spos : Pos} {elt tg iter : Expr} {ifs : List Expr} {scope : Scope} {own : List (Str × Nat)} {wi : WA} {t : Tg} {wt : WT} {we : DL.WE} (hc : X.calm = true) (hN : X.N.Nodup) (hy : X.N[i]? = some y) (hyl : X.env.scope.names.lookup y = some .local)
    (hsw : swapsWith (.ListComp elt [⟨tg, iter, ifs, 0⟩] scope pos) (some (.Name y py)) spos.line X.env = pure true) (hi : PI X tg iter (lowI W wi)) (ok : BlkOk X.N X.env.scope scope own)
    (hg : ∀ (s : Shared) (H : Hp) (C : Addr) (cl : List (Str × Addr)) (fp : List Addr), PG (X.blk s H scope (compEnvC scope cl C X.env) fp) tg (t.tg X.K)) (ht : ∀ (s : Shared) (H : Hp) (C : Addr) (cl : List (Str × Addr)) (fp : List Addr), PTs (X.blk s H scope (compEnvC scope cl C X.env) fp) ifs (lowT W0 wt))
    (he : ∀ (s : Shared) (H : Hp) (C : Addr) (cl : List (Str × Addr)) (fp : List Addr), PE (X.blk s H scope (compEnvC scope cl C X.env) fp) elt (low W0 we)) (hv : (t.idx.all fun i => (own.map (·.2)).contains i) = true := by rfl) (hs : ∀ x, foldedSetIterable iter X.env x = pure x := by intro _; rfl) :
    PS X (.Assign [.Name y py] (.ListComp elt [⟨tg, iter, ifs, 0⟩] scope pos) spos) (lowS W (wSet i (wLcN wi t wt we (own.map (·.2))))) :=
  PS.imp (ps_setLc hc hN hy hyl hsw hi ok hg ht he hs) fun D σ H ⟨sl, Hf, M, E, rl, w, k1, k2, k3, k4, k5⟩ =>
    low_lcN (W := W) (fun i h => by simpa using List.all_eq_true.mp hv i h) σ H _ (low_in (E := E) (Qd := fun d M1 => E.nx (sl.set i (some d)) M1) rl w k5 fun d Hf1 M1 v H1 s1 r1 q => k1 _ Hf1 M1 _ H1 s1 ((rl.step s1).set i r1) q)
theorem tk0 : Takes X W0 := takes0
end
/-! ### lists that change -/
section
variable {X : Cx} {W : WX} {e o i : Expr} {pos apos : Pos} {wo we wi : DL.WE}
/-- xs.append(e) -/
def wAppend (wo we : DL.WE) : DL.WE := fun sl M Q E => wo sl M (fun d M1 => ∃ p ds0, d = .raw (.ref p) ∧ M1 p = some (.lst ds0) ∧ we sl M1 (fun x M2 => ∃ ds, M2 p = some (.lst ds) ∧ ds.length < 90000 ∧ Q .non (updM M2 p (.lst (ds ++ [x])))) E) E
theorem d_append (ho : PE X o (low W wo)) (he : PE X e (low W we)) (hbase : attributeBase o "append" X.env (eval o X.env) = eval o X.env := by rfl)
    (hfew : ((backTo pos (starEach [e] X.env)).all (fun x => !x.1) && (backToKw pos (keywordEach [] X.env)).all (fun x => x.1.isSome)
      && decide ([e].length + ([] : List Keyword).length + (if ([] : List Keyword).isEmpty then 0 else 1) < 30)) = true := by rfl)
    (hline : (apos.endLine == pos.line) = true := by rfl) (hs : starEach [e] X.env = (false, eval e X.env) :: starEach [] X.env := by rfl) (hplain : (backTo pos (starEach [] X.env)).any (·.1) = false := by rfl) :
    PE X (.Call (.Attribute o "append" apos) [e] [] pos) (low W (wAppend wo we)) := by
  refine PE.imp (pe_bm PySem.F.plainAttrs_list PySem.F.slot_list_append PySem.F.type_list_append mt_append ho (pa_cons he pa_nil hs) hbase hfew hline hs hplain) fun σ H Q ⟨sl, Hf, M, Qd, Xd, rl, w, k, kx⟩ => ⟨sl, Hf, M, _, Xd, rl, w, fun d Hf1 M1 v H1 s1 r1 w1 => ?_, kx⟩
  obtain ⟨p, ds0, rfl, hp, w1⟩ := w1
  cases r1
  obtain ⟨xs0, h0, _⟩ := s1.wd.ok p _ hp
  refine ⟨.inl ⟨rfl, _, .of h0⟩, ⟨sl, Hf1, M1, _, Xd, rl.step s1, w1, fun x Hf2 M2 y H2 s2 r2 w2 => ?_, fun c Hf2 M2 H2 s2 hx => kx c Hf2 M2 H2 (s1.trans s2) hx⟩⟩
  obtain ⟨ds, hd, hz, q⟩ := w2
  obtain ⟨xs, h1, r⟩ := s2.wd.ok p _ hd
  refine ⟨p, xs, y, rfl, rfl, h1, by rw [r.length]; exact sz5lt (by omega), ?_⟩
  exact k .non Hf2 _ .non _ ((s1.trans s2).trans (Stp.write (mo := .lst (ds ++ [x])) s2.wd (.inl ⟨_, hd⟩) ⟨_, upd_same, r.append (.cons r2 .nil)⟩)) .non q
/-- xs[i] = e -/
def wStore (wo wi we : DL.WE) : WS := fun E sl M => we sl M (fun x M1 => wo sl M1 (fun d M2 => wi sl M2 (fun id M3 => ∃ p ds k j, d = .raw (.ref p) ∧ id = .int k ∧ M3 p = some (.lst ds) ∧ ixN ds.length k = some j ∧ E.nx sl (updM M3 p (.lst (ds.set j x)))) (fun c M => E.ex c sl M)) (fun c M => E.ex c sl M)) (fun c M => E.ex c sl M)
theorem s_store {tpos : Pos} (ho : PE X o (low W wo)) (hi : PE X i (low W wi)) (he : PE X e (low W we))
    (ha : ∀ v, assign (.Subscript o i tpos) X.env v = (do
      let ov ← holding [v] (eval o X.env)
      let iv ← holding [v, ov] (eval i X.env)
      standAt tpos
      holding [v, ov, iv] (setItem ov iv v)
      release [v, ov, iv] []) := by intro _; rfl)
    (hs : swapsWithSole [.Subscript o i tpos] e pos.line X.env = pure false := by rfl) (hw : swappedStores [.Subscript o i tpos] e X.env = pure none := by rfl)
    (h1 : (assignEach [.Subscript o i tpos] X.env).map (·.2) = [assign (.Subscript o i tpos) X.env] := by rfl) : PS X (.Assign [.Subscript o i tpos] e pos) (lowS W (wStore wo wi we)) := by
  refine PS.imp (ps_asg he (pg_sub ho hi set_list ha) hs hw h1) fun D σ H ⟨sl, Hf, M, E, rl, w, k1, k2, k3, k4, k5⟩ => low_in rl w k5 fun x Hf1 M1 y H1 s1 r1 q1 => ?_
  have kx : ∀ {c Hf0 M0 H0}, Stp Hf M H Hf0 M0 H0 → E.ex c sl M0 → W c none σ H0 := fun {c Hf0 M0 H0} s q => k5 c sl Hf0 M0 σ H0 s (rl.step s) q
  refine ⟨sl, Hf1, M1, _, _, rl.step s1, q1, fun d Hf2 M2 v H2 s2 r2 q2 => ?_, fun c Hf' M' H' s q => kx (s1.trans s) q⟩
  refine ⟨sl, Hf2, M2, _, _, rl.step (s1.trans s2), q2, fun id Hf3 M3 iv H3 s3 r3 q3 => ?_, fun c Hf' M' H' s q => kx ((s1.trans s2).trans s) q⟩
  obtain ⟨p, ds, kk, j, rfl, rfl, hd, hj, q⟩ := q3
  cases r2
  cases r3
  obtain ⟨xs, h1, r⟩ := s3.wd.ok p _ hd
  have s4 := (s1.trans s2).trans s3
  have sw := Stp.write (u := .lst (xs.set j y)) (mo := .lst (ds.set j x)) s3.wd (.inl ⟨_, hd⟩) ⟨_, upd_same, r.set ((r1.mono s2.up).mono s3.up) j⟩
  exact ⟨p, xs, kk, j, rfl, rfl, h1, by rw [r.length]; exact hj, k1 sl Hf3 _ σ _ (s4.trans sw) (rl.step (s4.trans sw)) q⟩
end
/-! ### a def -/
def startD (N : List Str) (ds : List Dd) : DS := ds.map some ++ List.replicate (N.length - ds.length) none
theorem RepAll.start {Hf : Hp} {N : List Str} {ds : List Dd} {vs : List V} {M : MS} {H : Hp} (r : RepAll Hf vs ds) (w : Wd Hf M H) : Rl (startD N ds) Hf M (L2.start N vs) H := by
  refine ⟨?_, fun i d e => ?_, w⟩
  · unfold startD L2.start
    rw [List.length_append, List.length_append, List.length_map, List.length_map, List.length_replicate, List.length_replicate, r.length]
  · unfold startD at e
    by_cases hi : i < ds.length
    · rw [List.getElem?_append_left (by simpa using hi), List.getElem?_map, List.getElem?_eq_getElem hi] at e
      have e2 : ds[i] = d := by simpa using e
      obtain ⟨v, h1, h2⟩ := r.getD (i := i) (d := d) (by rw [List.getElem?_eq_getElem hi, e2])
      refine ⟨v, ?_, h2⟩
      unfold L2.start
      have hv : i < vs.length := by rw [r.length]; exact hi
      rw [List.getElem?_append_left (by simpa using hv), List.getElem?_map, h1]
      rfl
    · rw [List.getElem?_append_right (by simpa using hi)] at e
      rw [List.getElem?_replicate] at e
      split at e <;> cases e
def endsD (Q : QD) (E : XD) : DE := ⟨fun _ M => Q .non M, Q, fun _ _ => False, fun _ _ => False, fun c _ M => E c M⟩
section
variable {P : Program} {w : World} {K : PySem.W.Frag} {mg : Str → Option Value} {base : Heap}
theorem fn_ok {qual : Str} {name : Str} {params : Arguments} {body : List Stmt} {scope : Scope} {dvs : List V} {kws : List (Str × V)} {f : Addr} {fd : FuncData} {N ps : List Str} {n k : Nat} {sp : DSp} (F : FunD K name qual params body scope dvs kws f fd) (S : FnScope N ps scope) (hn : ps.length = n)
    (hb : ∃ ww : WS, (∀ (cdv : Value) (A : Around) (outer : List Env) (s : Shared) (H : Hp) (E : XK), Bare bm A → Room k (A.deeper (envOfC qual scope s.heap.objs.size f cdv)) →
        Takes (cxOf (L2.CX P w) P w K mg base N qual scope f cdv A outer s H E) (fun c d _ H => E c d H) → PassesOwn (model P w) (A.deeper (envOfC qual scope s.heap.objs.size f cdv)) (envOfC qual scope s.heap.objs.size f cdv) (cxOf (L2.CX P w) P w K mg base N qual scope f cdv A outer s H E).xe →
        PSs (cxOf (L2.CX P w) P w K mg base N qual scope f cdv A outer s H E) body (lowS (fun c d _ H => E c d H) ww)) ∧
      ∀ ds M Q E, ds.length = n → sp ds M Q E → ww (endsD Q E) (startD N ds) M) : FnG bm P w K mg base (k + 1) f fd ps (lift n sp) := by
  obtain ⟨ww, hd, hr⟩ := hb
  refine fnG_of F S (fun vs H Q E h => by rw [hn]; exact lift_len h) fun cdv A outer s H vs Q E bA room h => ?_
  refine ⟨_, hd cdv A outer s H E bA room (takes_of rfl rfl rfl rfl) (passes_of (X := cxOf (L2.CX P w) P w K mg base N qual scope f cdv A outer s H E) rfl), ?_⟩
  obtain ⟨ds, Hf, M, Qd, Xd, hl, r, wd, q, k1, k2⟩ := h
  exact ⟨startD N ds, Hf, M, endsD Qd Xd, r.start wd, hr ds M Qd Xd hl q, fun sl' Hf' M' σ' H' s _ z => k1 .non Hf' M' .non H' s .non z, k1, fun _ _ _ _ _ _ _ z => z.elim, fun _ _ _ _ _ _ _ z => z.elim, fun c sl' Hf' M' σ' H' s _ z => k2 c Hf' M' H' s z⟩
theorem fn_def {name : Str} {params : Arguments} {body : List Stmt} {scope : Scope} {kws : List (Str × V)} {f : Addr} {fd : FuncData} {N ps : List Str} {n k : Nat} {sp : DSp} (F : FunD K name name params body scope [] kws f fd) (S : FnScope N ps scope) (hn : ps.length = n)
    (hm : mg name = some (.ref f)) (hbi : Binds K fd ps [])
    (hb : ∃ ww : WS, (∀ (cdv : Value) (A : Around) (outer : List Env) (s : Shared) (H : Hp) (E : XK), Bare bm A → Room k (A.deeper (envOfC name scope s.heap.objs.size f cdv)) →
        Takes (cxOf (L2.CX P w) P w K mg base N name scope f cdv A outer s H E) (fun c d _ H => E c d H) → PassesOwn (model P w) (A.deeper (envOfC name scope s.heap.objs.size f cdv)) (envOfC name scope s.heap.objs.size f cdv) (cxOf (L2.CX P w) P w K mg base N name scope f cdv A outer s H E).xe →
        PSs (cxOf (L2.CX P w) P w K mg base N name scope f cdv A outer s H E) body (lowS (fun c d _ H => E c d H) ww)) ∧
      ∀ ds M Q E, ds.length = n → sp ds M Q E → ww (endsD Q E) (startD N ds) M) : Fn bm P w K mg base name n (k + 1) sp :=
  ⟨f, FR.of (fn_ok F S hn hb) hbi, hm, F.kp⟩
end
end DL
/-! DL6: operators and built-ins by data. -/
namespace DL
open PySem PySem.Spec PyProof.Rows L2
/-! ### data as the library knows it -/
mutual
def py : Dd → Option PyData
  | .non => some .none
  | .bl b => some (.bool b)
  | .int i => some (.int i)
  | .str x => some (.str x)
  | .lst ds => (pyAll ds).map .list
  | .tup ds => (pyAll ds).map .tuple
  | .utp _ => none
  | .ins _ _ _ => none
  | .dic _ _ => none
  | .scr _ _ => none
  | .raw _ => none
def pyAll : List Dd → Option (List PyData)
  | [] => some []
  | d :: ds => (py d).bind fun p => (pyAll ds).map fun ps => p :: ps
end
theorem py_lst {ds : List Dd} {p : PyData} (h : py (.lst ds) = some p) : ∃ ps, pyAll ds = some ps ∧ p = .list ps := by
  simp only [py, Option.map_eq_some_iff] at h
  obtain ⟨ps, h1, rfl⟩ := h
  exact ⟨ps, h1, rfl⟩
theorem py_tup {ds : List Dd} {p : PyData} (h : py (.tup ds) = some p) : ∃ ps, pyAll ds = some ps ∧ p = .tuple ps := by
  simp only [py, Option.map_eq_some_iff] at h
  obtain ⟨ps, h1, rfl⟩ := h
  exact ⟨ps, h1, rfl⟩
theorem pyAll_cons {d : Dd} {ds : List Dd} {ps : List PyData} (h : pyAll (d :: ds) = some ps) : ∃ p qs, py d = some p ∧ pyAll ds = some qs ∧ ps = p :: qs := by
  simp only [pyAll, Option.bind_eq_some_iff, Option.map_eq_some_iff] at h
  obtain ⟨p, h1, qs, h2, rfl⟩ := h
  exact ⟨p, qs, h1, h2, rfl⟩
mutual
theorem Rep.dp {K : PySem.W.Frag} {H : Hp} : ∀ {d : Dd} {v : V} {p : PyData}, Rep H v d → py d = some p → Dp K H v p
  | .non, _, _, .non, h => by cases h; exact .non
  | .bl b, _, _, .bl _, h => by cases h; exact .bl b
  | .int i, _, _, .int _, h => by cases h; exact .int i
  | .str x, _, _, .str _, h => by cases h; exact .str x
  | .lst ds, _, p, .lst ha r, h => by
    obtain ⟨ps, h1, rfl⟩ := py_lst h
    exact .lst (.of ha) (RepAll.dp r h1)
  | .tup ds, _, p, .tup ha _ r, h => by
    obtain ⟨ps, h1, rfl⟩ := py_tup h
    exact .tup (.inl (.inr ⟨_, ha⟩)) (RepAll.dp r h1)
  | .utp _, _, _, _, h => by cases h
  | .ins _ _ _, _, _, _, h => by cases h
  | .dic _ _, _, _, _, h => by cases h
  | .scr _ _, _, _, _, h => by cases h
  | .raw _, _, _, _, h => by cases h
theorem RepAll.dp {K : PySem.W.Frag} {H : Hp} : ∀ {ds : List Dd} {vs : List V} {ps : List PyData}, RepAll H vs ds → pyAll ds = some ps → DpAll K H vs ps
  | [], _, _, .nil, h => by cases h; exact .nil
  | _ :: _, _, _, .cons h1 r, h => by
    obtain ⟨p, qs, e1, e2, rfl⟩ := pyAll_cons h
    exact .cons (Rep.dp h1 e1) (RepAll.dp r e2)
end
mutual
theorem py_plain : ∀ {d : Dd} {p : PyData}, py d = some p → p.plain = true
  | .non, _, h => by cases h; rfl
  | .bl b, _, h => by cases h; rfl
  | .int i, _, h => by cases h; rfl
  | .str x, _, h => by cases h; rfl
  | .lst ds, p, h => by
    obtain ⟨ps, h1, rfl⟩ := py_lst h
    simp only [PyData.plain]
    exact pyAll_plain h1
  | .tup ds, p, h => by
    obtain ⟨ps, h1, rfl⟩ := py_tup h
    simp only [PyData.plain]
    exact pyAll_plain h1
  | .utp _, _, h => by cases h
  | .ins _ _ _, _, h => by cases h
  | .dic _ _, _, h => by cases h
  | .scr _ _, _, h => by cases h
  | .raw _, _, h => by cases h
theorem pyAll_plain : ∀ {ds : List Dd} {ps : List PyData}, pyAll ds = some ps → PyData.plainAll ps = true
  | [], _, h => by cases h; rfl
  | _ :: _, _, h => by
    obtain ⟨p, qs, e1, e2, rfl⟩ := pyAll_cons h
    simp only [PyData.plainAll, py_plain e1, pyAll_plain e2, Bool.and_self]
end
section
variable {X : Cx}
/-! ### whole numbers -/
def gI (f : Int → Int → Option Dd) : Dd → Dd → Option Dd
  | .int i, .int j => f i j
  | _, _ => none
theorem gI_some {f : Int → Int → Option Dd} {d e z : Dd} (h : gI f d e = some z) : ∃ i j, d = .int i ∧ e = .int j ∧ f i j = some z := by
  cases d <;> cases e <;> simp [gI] at h ⊢
  exact h
theorem opI_of {f : Value → Value → Sem Value} {C : Int → Int → Prop} {g : Int → Int → V} {k : Int → Int → Option Dd} (ho : OpR X f (rI C g)) (hk : ∀ i j z, k i j = some z → C i j ∧ ∀ H, Rep H (g i j) z) : OpG X f (gI k) :=
  ⟨_, ho, fun Hf M H x y d e z Q w hx hy hz q => by
    obtain ⟨i, j, rfl, rfl, h⟩ := gI_some hz
    obtain ⟨hc, hr⟩ := hk i j z h
    exact ⟨i, j, hx.int, hy.int, hc, q _ Hf H (Grow.refl w.le) (hr _)⟩⟩
theorem opI0_of {f : Value → Value → Sem Value} {g : Int → Int → V} {k : Int → Int → Option Dd} (ho : OpR X f (rI0 g)) (hk : ∀ i j z, k i j = some z → ∀ H, Rep H (g i j) z) : OpG X f (gI k) :=
  ⟨_, ho, fun Hf M H x y d e z Q w hx hy hz q => by
    obtain ⟨i, j, rfl, rfl, h⟩ := gI_some hz
    exact ⟨i, j, hx.int, hy.int, q _ Hf H (Grow.refl w.le) (hk i j z h _)⟩⟩
def gSub : Dd → Dd → Option Dd := gI fun i j => some (.int (i - j))
def gMul : Dd → Dd → Option Dd := gI fun i j => if (-(2 ^ 64) < i ∧ i < 2 ^ 64) ∨ (-(2 ^ 64) < j ∧ j < 2 ^ 64) then some (.int (i * j)) else none
def gMod : Dd → Dd → Option Dd := gI fun i j => if 0 < j then some (.int (i % j)) else none
def gDiv : Dd → Dd → Option Dd := gI fun i j => if 0 < j ∧ j < 1073741824 then some (.int (i / j)) else none
def gPow : Dd → Dd → Option Dd := gI fun i j => if 0 ≤ j ∧ j ≤ 1000000 ∧ i.natAbs < 2 ^ 64 then some (.int (i ^ j.toNat)) else none
def gLt : Dd → Dd → Option Dd := gI fun i j => some (.bl (decide (i < j)))
def gLe : Dd → Dd → Option Dd := gI fun i j => some (.bl (decide (i ≤ j)))
def gGt : Dd → Dd → Option Dd := gI fun i j => some (.bl (decide (j < i)))
def gGe : Dd → Dd → Option Dd := gI fun i j => some (.bl (decide (j ≤ i)))
theorem o_sub : OpG X (binaryOp .Sub) gSub := opI0_of op_sub fun i j z h H => by cases h; exact .int _
theorem o_mul : OpG X (binaryOp .Mult) gMul := opI_of op_mul fun i j z h => by
  split at h
  · rename_i c; cases h; exact ⟨c, fun _ => .int _⟩
  · cases h
theorem o_mod : OpG X (binaryOp .Mod) gMod := opI_of op_mod fun i j z h => by
  split at h
  · rename_i c; cases h; exact ⟨c, fun _ => .int _⟩
  · cases h
theorem o_div : OpG X (binaryOp .FloorDiv) gDiv := opI_of op_fdiv fun i j z h => by
  split at h
  · rename_i c; cases h; exact ⟨c, fun _ => .int _⟩
  · cases h
theorem o_pow : OpG X (binaryOp .Pow) gPow := opI_of op_pow fun i j z h => by
  split at h
  · rename_i c; cases h; exact ⟨c, fun _ => .int _⟩
  · cases h
theorem o_lt : OpG X (compareOp .Lt) gLt := opI0_of op_lt fun i j z h H => by cases h; exact .bl _
theorem o_le : OpG X (compareOp .LtE) gLe := opI0_of op_le fun i j z h H => by cases h; exact .bl _
theorem o_gt : OpG X (compareOp .Gt) gGt := opI0_of op_gt fun i j z h H => by cases h; exact .bl _
theorem o_ge : OpG X (compareOp .GtE) gGe := opI0_of op_ge fun i j z h H => by cases h; exact .bl _
/-- t + u: a new tuple's object is known -/
def rCatF (K : PySem.W.Frag) : R2 := fun x y H Q => ∃ a b xs ys, x = .ref a ∧ y = .ref b ∧ SqT K H a xs ∧ SqT K H b ys ∧ xs.length + ys.length ≤ sizeLine ∧
  (xs = [] → Q (.ref b) H) ∧ (xs ≠ [] → ys = [] → Q (.ref a) H) ∧ (xs ≠ [] → ys ≠ [] → ∀ p o, H p = none → o.dict = none → Q (.ref p) (upd H p (.frz o (.tup (xs ++ ys)))))
theorem op_catF : OpR X (binaryOp .Add) (rCatF X.K) := by
  rintro pins s σ H x y v u Q I rx ry ⟨a, b, xs, ys, ex, ey, ha, hb, hz, q0, q1, q2⟩
  subst ex ey
  cases rx
  cases ry
  obtain ⟨l1, r1, p1, _⟩ := I.tuple ha
  obtain ⟨l2, r2, p2, _⟩ := I.tuple hb
  have n1 : l1 = [] ↔ xs = [] := r1.nil_iff
  have n2 : l2 = [] ↔ ys = [] := r2.nil_iff
  by_cases hx : xs = []
  · have e1 := n1.mpr hx
    subst e1
    exact cat_tup0 p1 p2 ⟨.ref b, H, I, rfl, q0 hx⟩
  apply HT.cat_tup p1 p2 (fun z => hx (n1.mp z)) (fun z => ⟨.ref a, H, I, rfl, q1 hx (n2.mp z)⟩) (fun z => ?_) (by rw [← r1.length, ← r2.length]; exact hz)
  have hz2 : (xs ++ ys).length ≤ sizeLine := by rw [List.length_append]; exact hz
  exact ⟨.ref _, _, I.laid (t' := s.toks) (fun _ _ q => Heap.get?_push_of_some _ q) (Nat.le_refl _) (tOb_ok (r1.append r2) hz2), rfl, q2 hx (fun e => z (n2.mpr e)) _ _ (I.hok.fresh (Nat.le_refl _)) rfl⟩
/-! ### + -/
def gAdd : Dd → Dd → Option Dd
  | .int i, .int j => some (.int (i + j))
  | .str a, .str b => if a.length + b.length ≤ 1000000 then some (.str (a ++ b)) else none
  | .lst xs, .lst ys => if xs.length + ys.length ≤ 100000 then some (.lst (xs ++ ys)) else none
  | .tup xs, .tup ys => if xs.length + ys.length ≤ 100000 then some (.tup (xs ++ ys)) else none
  | _, _ => none
theorem o_add : OpG X (binaryOp .Add) gAdd := by
  refine ⟨_, OpR.or (OpR.or op_add op_add_str) (OpR.or op_cat op_catF), fun Hf M H x y d e z Q w hx hy hz q => ?_⟩
  cases d with
  | int i =>
    cases e with
    | int j => cases hz; exact .inl (.inl ⟨i, j, hx.int, hy.int, q _ Hf H (Grow.refl w.le) (.int _)⟩)
    | _ => cases hz
  | str a =>
    cases e with
    | str b =>
      simp only [gAdd] at hz
      split at hz
      · rename_i c
        cases hz
        exact .inl (.inr ⟨a, b, hx.str, hy.str, Nat.le_trans c (by decide), q _ Hf H (Grow.refl w.le) (.str _)⟩)
      · cases hz
    | _ => cases hz
  | lst xs =>
    cases e with
    | lst ys =>
      simp only [gAdd] at hz
      split at hz
      · rename_i c
        cases hz
        obtain ⟨a, us, rfl, ha, ra⟩ := hx.lst w.le
        obtain ⟨b, vs, rfl, hb, rb⟩ := hy.lst w.le
        exact .inr (.inl ⟨a, b, us, vs, rfl, rfl, ha, hb, by rw [ra.length, rb.length]; exact sz5 c, fun p hp => q _ _ _ (Grow.one w.le hp) (.lst upd_same ((ra.append rb).mono (Grow.one w.le hp).fz))⟩)
      · cases hz
    | _ => cases hz
  | tup xs =>
    cases e with
    | tup ys =>
      simp only [gAdd] at hz
      split at hz
      · rename_i c
        cases hz
        have fx := hx.tupF
        have fy := hy.tupF
        obtain ⟨a, us, rfl, ha, ra⟩ := hx.tup
        obtain ⟨b, vs, rfl, hb, rb⟩ := hy.tup
        refine .inr (.inr ⟨a, b, us, vs, rfl, rfl, .inl (rd_mono w.le ha), .inl (rd_mono w.le hb), by rw [ra.length, rb.length]; exact sz5 c, fun e0 => ?_, fun _ e0 => ?_, fun _ _ p o hp ho => q _ _ _ (Grow.one w.le hp) (.tup upd_same ho ((ra.append rb).mono (Grow.one w.le hp).fz))⟩)
        · subst e0
          cases ra
          exact q _ Hf H (Grow.refl w.le) fy
        · subst e0
          cases rb
          rw [List.append_nil] at q
          exact q _ Hf H (Grow.refl w.le) fx
      · cases hz
    | _ => cases hz
  | _ => cases hz
/-! ### ==, in -/
def gEqB (f : Bool → Bool) (d e : Dd) : Option Dd := (py d).bind fun p => (py e).bind fun q => if p.depth ≤ 64 then some (.bl (f (PyData.eqv p q))) else none
theorem gEqB_some {f : Bool → Bool} {d e z : Dd} (h : gEqB f d e = some z) : ∃ p q, py d = some p ∧ py e = some q ∧ p.depth ≤ 64 ∧ z = .bl (f (PyData.eqv p q)) := by
  simp only [gEqB, Option.bind_eq_some_iff] at h
  obtain ⟨p, h1, q, h2, h3⟩ := h
  split at h3
  · rename_i c
    cases h3
    exact ⟨p, q, h1, h2, c, rfl⟩
  · cases h3
abbrev gEq : Dd → Dd → Option Dd := gEqB fun b => b
abbrev gNe : Dd → Dd → Option Dd := gEqB fun b => !b
theorem o_eq (hu : X.A.units + 150 < cLine) : OpG X (compareOp .Eq) gEq := by
  refine ⟨fun x y H Q => ∃ d e, Dp X.K H x d ∧ Dp X.K H y e ∧ d.plain = true ∧ e.plain = true ∧ d.depth ≤ 64 ∧ Q (.bl (PyData.eqv d e)) H, ?_, ?_⟩
  · intro pins s σ H x y v u Q I rx ry ⟨d, e, hd, he, pd, pe, dd, q⟩
    obtain ⟨as, r1⟩ := Dp.reads I d x v hd rx
    obtain ⟨bs, r2⟩ := Dp.reads I e y u he ry
    have hm : min d.depth e.depth ≤ 64 := Nat.le_trans (Nat.min_le_left _ _) dd
    exact SeqAt.eq_plain r1 r2 pd pe (by omega) ⟨.bl _, H, I, rfl, q⟩
  · intro Hf M H x y d e z Q w hx hy hz q
    obtain ⟨p, p2, h1, h2, h3, rfl⟩ := gEqB_some hz
    exact ⟨p, p2, (hx.rep w.le).dp h1, (hy.rep w.le).dp h2, py_plain h1, py_plain h2, h3, q _ Hf H (Grow.refl w.le) (.bl _)⟩
theorem o_ne (hu : X.A.units + 150 < cLine) : OpG X (compareOp .NotEq) gNe := by
  refine ⟨fun x y H Q => ∃ d e, Dp X.K H x d ∧ Dp X.K H y e ∧ d.plain = true ∧ e.plain = true ∧ d.depth ≤ 64 ∧ Q (.bl (!PyData.eqv d e)) H, ?_, ?_⟩
  · intro pins s σ H x y v u Q I rx ry ⟨d, e, hd, he, pd, pe, dd, q⟩
    obtain ⟨as, r1⟩ := Dp.reads I d x v hd rx
    obtain ⟨bs, r2⟩ := Dp.reads I e y u he ry
    have hm : min d.depth e.depth ≤ 64 := Nat.le_trans (Nat.min_le_left _ _) dd
    exact SeqAt.ne_plain r1 r2 pd pe (by omega) ⟨.bl _, H, I, rfl, q⟩
  · intro Hf M H x y d e z Q w hx hy hz q
    obtain ⟨p, p2, h1, h2, h3, rfl⟩ := gEqB_some hz
    exact ⟨p, p2, (hx.rep w.le).dp h1, (hy.rep w.le).dp h2, py_plain h1, py_plain h2, h3, q _ Hf H (Grow.refl w.le) (.bl _)⟩
/-- x in xs: data in a list or a tuple; one sign in a text -/
def gInB (f : Bool → Bool) : Dd → Dd → Option Dd
  | .str a, .str z => (match a.cps.toList with
    | [c] => some (.bl (f (decide (c ∈ z.cps.toList))))
    | _ => none)
  | d, .lst es => (py d).bind fun p => (pyAll es).bind fun qs => if p.depth ≤ 64 then some (.bl (f (qs.any fun y => PyData.eqv y p))) else none
  | d, .tup es => (py d).bind fun p => (pyAll es).bind fun qs => if p.depth ≤ 64 then some (.bl (f (qs.any fun y => PyData.eqv y p))) else none
  | _, _ => none
abbrev gIn : Dd → Dd → Option Dd := gInB fun b => b
abbrev gNotIn : Dd → Dd → Option Dd := gInB fun b => !b
def rInP (K : PySem.W.Frag) (f : Bool → Bool) : R2 := fun x y H Q => ∃ d ds, Dp K H x d ∧ (Dp K H y (.list ds) ∨ Dp K H y (.tuple ds)) ∧ d.plain = true ∧ PyData.plainAll ds = true ∧ d.depth ≤ 64 ∧ Q (.bl (f (ds.any fun z => PyData.eqv z d))) H
theorem gInB_some {f : Bool → Bool} {d e z : Dd} (h : gInB f d e = some z) : (∃ c t, d = .str ⟨#[c]⟩ ∧ e = .str t ∧ z = .bl (f (decide (c ∈ t.cps.toList)))) ∨
    ∃ es p qs, (e = .lst es ∨ e = .tup es) ∧ py d = some p ∧ pyAll es = some qs ∧ p.depth ≤ 64 ∧ z = .bl (f (qs.any fun y => PyData.eqv y p)) := by
  unfold gInB at h
  split at h
  · rename_i a t
    split at h
    · rename_i c ec
      cases h
      refine .inl ⟨c, t, ?_, rfl, rfl⟩
      obtain ⟨⟨l⟩⟩ := a
      have el : l = [c] := ec
      rw [el]
    · cases h
  · simp only [Option.bind_eq_some_iff] at h
    obtain ⟨p, h1, qs, h2, h3⟩ := h
    split at h3
    · rename_i c; cases h3; exact .inr ⟨_, p, qs, .inl rfl, h1, h2, c, rfl⟩
    · cases h3
  · simp only [Option.bind_eq_some_iff] at h
    obtain ⟨p, h1, qs, h2, h3⟩ := h
    split at h3
    · rename_i c; cases h3; exact .inr ⟨_, p, qs, .inr rfl, h1, h2, c, rfl⟩
    · cases h3
  · cases h
theorem in_of {f : Bool → Bool} {Hf H : Hp} {M : MS} {x y : V} {d e z : Dd} {Q : VK} (w : Wd Hf M H) (hx : RepT Hf M H x d) (hy : RepT Hf M H y e) (hz : gInB f d e = some z) (q : ∀ v Hf' H', Grow Hf H Hf' H' → Rep Hf' v z → Q v H') :
    (∃ (c : Nat) (t : Str), x = .str ⟨#[c]⟩ ∧ y = .str t ∧ Q (.bl (f (decide (c ∈ t.cps.toList)))) H) ∨ rInP X.K f x y H Q := by
  rcases gInB_some hz with ⟨c, t, rfl, rfl, rfl⟩ | ⟨es, p, qs, he, h1, h2, h3, rfl⟩
  · exact .inl ⟨c, t, hx.str, hy.str, q _ Hf H (Grow.refl w.le) (.bl _)⟩
  · refine .inr ⟨p, qs, (hx.rep w.le).dp h1, ?_, py_plain h1, pyAll_plain h2, h3, q _ Hf H (Grow.refl w.le) (.bl _)⟩
    rcases he with rfl | rfl
    · exact .inl ((hy.rep w.le).dp (by simp [py, h2]))
    · exact .inr ((hy.rep w.le).dp (by simp [py, h2]))
theorem o_in (hu : X.A.units + 150 < cLine) : OpG X (compareOp .In) gIn := by
  refine ⟨_, OpR.or op_in_sign (r' := rInP X.K fun b => b) ?_, fun Hf M H x y d e z Q w hx hy hz q => in_of w hx hy hz q⟩
  intro pins s σ H x y v u Q I rx ry ⟨d, ds, hd, he, pd, pe, dd, q⟩
  obtain ⟨as, r1⟩ := Dp.reads I d x v hd rx
  have hm : min (PyData.depthAll ds) d.depth ≤ 64 := Nat.le_trans (Nat.min_le_right _ _) dd
  rcases he with he | he
  · obtain ⟨bs, r2⟩ := Dp.reads I _ y u he ry
    exact SeqAt.in_list_data r2 r1 pe pd (by omega) ⟨.bl _, H, I, rfl, q⟩
  · obtain ⟨bs, r2⟩ := Dp.reads I _ y u he ry
    exact SeqAt.in_tuple_data r2 r1 pe pd (by omega) ⟨.bl _, H, I, rfl, q⟩
theorem o_notIn (hu : X.A.units + 150 < cLine) : OpG X (compareOp .NotIn) gNotIn := by
  refine ⟨_, OpR.or op_notIn_sign (r' := rInP X.K fun b => !b) ?_, fun Hf M H x y d e z Q w hx hy hz q => in_of w hx hy hz q⟩
  intro pins s σ H x y v u Q I rx ry ⟨d, ds, hd, he, pd, pe, dd, q⟩
  obtain ⟨as, r1⟩ := Dp.reads I d x v hd rx
  have hm : min (PyData.depthAll ds) d.depth ≤ 64 := Nat.le_trans (Nat.min_le_right _ _) dd
  rcases he with he | he
  · obtain ⟨bs, r2⟩ := Dp.reads I _ y u he ry
    exact SeqAt.notIn_list_data r2 r1 pe pd (by omega) ⟨.bl _, H, I, rfl, q⟩
  · obtain ⟨bs, r2⟩ := Dp.reads I _ y u he ry
    exact SeqAt.notIn_tuple_data r2 r1 pe pd (by omega) ⟨.bl _, H, I, rfl, q⟩
/-! ### is None -/
def isN : Dd → Option Bool
  | .non => some true
  | .bl _ => some false
  | .int _ => some false
  | .str _ => some false
  | .lst _ => some false
  | .tup _ => some false
  | .utp _ => some false
  | .ins _ _ _ => some false
  | .dic _ _ => some false
  | .scr _ _ => some false
  | .raw (.ref _) => some false
  | .raw _ => none
def gIs (f : Bool → Bool) : Dd → Dd → Option Dd := fun d e => match e with
  | .non => (isN d).map fun b => .bl (f b)
  | _ => none
theorem isN_ok {Hf H : Hp} {M : MS} {x : V} {d : Dd} {b : Bool} (h : RepT Hf M H x d) (e : isN d = some b) : decide (x = .non) = b := by
  cases h with
  | fz h =>
    cases h with
    | raw _ =>
      cases x with
      | ref a => cases e; rfl
      | _ => cases e
    | _ => cases e; rfl
  | @mu a mo _ _ => cases mo <;> (cases e; rfl)
theorem gIs_some {f : Bool → Bool} {d e z : Dd} (h : gIs f d e = some z) : ∃ b, e = .non ∧ isN d = some b ∧ z = .bl (f b) := by
  unfold gIs at h
  split at h
  · simp only [Option.map_eq_some_iff] at h
    obtain ⟨b, h1, rfl⟩ := h
    exact ⟨b, rfl, h1, rfl⟩
  · cases h
abbrev gIsNone : Dd → Dd → Option Dd := gIs fun b => b
abbrev gNotNone : Dd → Dd → Option Dd := gIs fun b => !b
theorem o_is : OpG X (compareOp .Is) gIsNone := by
  refine ⟨_, op_isN, fun Hf M H x y d e z Q w hx hy hz q => ?_⟩
  obtain ⟨b, rfl, h1, rfl⟩ := gIs_some hz
  refine ⟨hy.non, ?_⟩
  rw [isN_ok hx h1]
  exact q _ Hf H (Grow.refl w.le) (.bl _)
theorem o_isnot : OpG X (compareOp .IsNot) gNotNone := by
  refine ⟨_, op_notN, fun Hf M H x y d e z Q w hx hy hz q => ?_⟩
  obtain ⟨b, rfl, h1, rfl⟩ := gIs_some hz
  refine ⟨hy.non, ?_⟩
  rw [isN_ok hx h1]
  exact q _ Hf H (Grow.refl w.le) (.bl _)
theorem hu_ok {k : Nat} {A : Around} (hr : Room k A) : A.units + 150 < cLine := by have := hr.un; omega
end
end DL
/-! DE1: enumerate of a tuple. -/
namespace DL
open PySem PySem.Spec PyProof.Rows L2
open AutoSeq1 (wpAny_loadPart')
theorem new_enumT (l : Addr) (items : Array Value) (n : Nat) (dct : Option Addr) (sl : Array (Option Value)) : Meets (Builtin.«enumerate.__new__» ⟨[.type "enumerate", .ref l], []⟩) (fun _ R s => s.heap.get? l = some { cls := .type "tuple", dict := dct, data := .seq items n, slots := sl } ∧
      R (.ok (.ret (.ref (s.heap.push { cls := .type "tuple_iterator", data := .fields #[.ref l, .int 0 0] }).objs.size)))
        { s with heap := (s.heap.push { cls := .type "tuple_iterator", data := .fields #[.ref l, .int 0 0] }).push { cls := .type "enumerate", data := .fields #[.none, .bool false, .ref s.heap.objs.size, rawInt 0, .none, .none] } }) := by
  apply Meets.of_wp
  intro prog w A R s h
  obtain ⟨hp, g, d, tk, os⟩ := s
  obtain ⟨hl, h⟩ := h
  have hsub := sub_enumerate
  have hL : Heap.IsTuple (Shared.heap ⟨hp, g, d, tk, os⟩) l items := ⟨_, hl, rfl, n, rfl⟩
  wp_walk using wpAny_loadPart' hl
  apply wpAny_stack_any
  intro st
  apply wpAny_pure
  split
  · rename_i c _ _ _ _ _
    cases (c == Value.type "enumerate") <;> (wp_walk using wpAny_loadPart' hl, wpAny_pyIter_tuple hL; exact ⟨_, rfl, h⟩)
  · wp_walk using wpAny_loadPart' hl, wpAny_pyIter_tuple hL
    exact ⟨_, rfl, h⟩
theorem call_enumT {prog : Program} {w : World} {A : Around} {E : Value → Shared → Prop} {s : Shared} {l : Addr} {items : Array Value} {Q : Value → Shared → Prop} (hL : IsTup s.heap l items)
    (h : ∀ h', IsEnum h' (s.heap.objs.size + 1) s.heap.objs.size 0 .none → h'.IsTupleIter s.heap.objs.size l 0 → (∀ b o, s.heap.get? b = some o → h'.get? b = some o) → Q (.ref (s.heap.objs.size + 1)) { s with heap := h' }) :
    wpAny (model prog w) A (call (.type "enumerate") [.ref l]) Q E s := by
  obtain ⟨⟨c, dct, dt, sl⟩, hl, hc, n, hd⟩ := hL
  obtain rfl : c = .type "tuple" := hc
  obtain rfl : dt = .seq items n := hd
  apply callType_new F.called_enumerate (by decide) (F.typeCall_enumerate_1 _) (F.newCall_enumerate_1 _) (fun obj => F.args_object_init_2 obj _) F.entry_enumerate_new (new_enumT l items n dct sl)
  have hz : (s.heap.push { cls := .type "tuple_iterator", data := .fields #[.ref l, .int 0 0] }).objs.size = s.heap.objs.size + 1 := Heap.size_push ..
  have he : IsEnum ((s.heap.push { cls := .type "tuple_iterator", data := .fields #[.ref l, .int 0 0] }).push { cls := .type "enumerate", data := .fields #[.none, .bool false, .ref s.heap.objs.size, rawInt 0, .none, .none] }) (s.heap.objs.size + 1) s.heap.objs.size 0 .none := by
    have q := Heap.get?_push_size (s.heap.push { cls := .type "tuple_iterator", data := .fields #[.ref l, .int 0 0] }) (o := { cls := .type "enumerate", data := .fields #[.none, .bool false, .ref s.heap.objs.size, rawInt 0, .none, .none] }) rfl
    rw [hz] at q
    exact q
  refine ⟨hl, ?_⟩
  show _ ∧ _
  rw [hz]
  exact ⟨⟨_, he, rfl⟩, h _ he ⟨_, Heap.get?_push_of_some _ (Heap.get?_push_size _ rfl), rfl, rfl⟩ fun b o x => Heap.get?_push_of_some _ (Heap.get?_push_of_some _ x)⟩
/-- the tuple at a, each item in a new pair -/
def Iet (a : Addr) : It :=
  ⟨fun i H => ∃ (xs : List V) (x : V), Rd H a (.tup xs) ∧ xs[i]? = some x, fun i H v H' => ∃ T x, v = .ref T ∧ H T = none ∧ H' = upd H T (.tup [.int (i : Nat), x]) ∧ ∀ xs, Rd H a (.tup xs) → xs[i]? = some x, fun i H => ∃ xs : List V, Rd H a (.tup xs) ∧ xs.length = i⟩
theorem rd_inj {H : Hp} {a : Addr} {xs ys : List V} (h : Rd H a (.tup xs)) (h' : Rd H a (.tup ys)) : xs = ys := by
  rcases h with h | ⟨o, h⟩ <;> rcases h' with h' | ⟨o', h'⟩ <;> (rw [h] at h'; cases h'; try rfl)
theorem rd_some {H : Hp} {a : Addr} {u : HO} (h : Rd H a u) : H a ≠ none := by
  rcases h with h | ⟨o, h⟩ <;> (rw [h]; exact fun z => nomatch z)
theorem turn_enumT {P : Program} {w : World} {K : PySem.W.Frag} {elts : List Expr} {kk : Nat} {tpos : Pos} (a e it : Addr) :
    Turn P w K (.Tuple elts kk tpos) (Iet a) [e, it] e (fun i h => (∃ old, IsEnum h e it ((i : Nat) : Int) old) ∧ h.IsTupleIter it a i ∧ e ≠ it) := by
  have dist : ∀ {X : Cx} {pins : List (Addr × Obj)} {H : Hp} {xs : List V}, (∀ b ∈ [e, it], FpOk X pins H b) → Rd H a (.tup xs) → a ≠ it ∧ a ≠ e := fun {X pins H xs} hf hq =>
    ⟨fun z => rd_some hq (by rw [z]; exact (hf it (by simp)).1), fun z => rd_some hq (by rw [z]; exact (hf e (by simp)).1)⟩
  constructor
  case mem => simp
  case obj =>
    intro i h st b hb
    obtain ⟨⟨old, he⟩, ⟨o, ho, hc, hd⟩, _⟩ := st
    rcases (show b = e ∨ b = it by simpa using hb) with rfl | rfl
    · exact ⟨_, he, fun v q => nomatch q⟩
    · exact ⟨o, ho, fun v q => by rw [hd] at q; cases q⟩
  case keep =>
    intro i h h' st k
    obtain ⟨⟨old, he⟩, hi, hne⟩ := st
    exact ⟨⟨old, k e (by simp) _ he⟩, hi.at fun o q => k it (by simp) o q, hne⟩
  case self =>
    intro A i s Q E st h
    obtain ⟨⟨_, he⟩, _⟩ := st
    exact wpAny_pyIter_enum he h
  case done =>
    rintro X rfl rfl rfl hc i pins s σ H E I hf st ⟨xs, hq, hx⟩
    obtain ⟨⟨old, he⟩, hit, hne⟩ := st
    obtain ⟨its, rv, p, hz⟩ := I.tuple (.inl hq)
    have D := Draws.tuple (prog := X.prog) (w := X.w) (A := X.A.in1) (I.ok.hd hc) it a (dist hf hq).1 its.toArray
    have hn : its.toArray.size = i := by
      rw [List.size_toArray, ← rv.length]
      exact hx
    obtain ⟨f0, f1, f2, f3, f4, f5⟩ := hf it (by simp)
    have st2 : s.heap.IsTupleIter it a its.toArray.size ∧ s.heap.IsTuple a its.toArray := ⟨by rw [hn]; exact hit, p⟩
    exact wpAny_pyNext_enum_endD D he st2 fun h' eb => ⟨rfl, I.turned (t' := s.toks) (fun b o hb q => eb b o hb q) f0 f1 f3 f4 f5⟩
  case item =>
    rintro X rfl rfl rfl hc i pins s σ H E I hf st ⟨xs, x, hq, hx⟩
    obtain ⟨⟨old, he⟩, hit, hne⟩ := st
    obtain ⟨its, rv, p, hz⟩ := I.tuple (.inl hq)
    obtain ⟨u, hu, ru⟩ := rv.get hx
    obtain ⟨da, dE⟩ := dist hf hq
    have D := Draws.tuple (prog := X.prog) (w := X.w) (A := X.A.in1) (I.ok.hd hc) it a da its.toArray
    have lte : e < s.heap.objs.size := Heap.lt_size he
    have lti : it < s.heap.objs.size := by obtain ⟨_, q, _⟩ := hit; exact Heap.lt_size q
    have hlt : i < its.toArray.size := by
      rw [List.size_toArray]
      exact (List.getElem?_eq_some_iff.mp hu).1
    refine wpAny_pyNext_enum_itemD D he ⟨hit, p⟩ hlt hne (by simp [hne, Ne.symm dE]) fun y h' tk hy ho st' hT hsz hk => ⟨_, rfl, wpAny_letOwnedTupleGo_enum (s := { s with heap := h', toks := tk + 1 }) ho fun h2 he2 sb => ?_⟩
    have ey : y = u := by
      have q : its.toArray[i]? = some y := hy
      rw [List.getElem?_toArray, hu] at q
      exact (Option.some.inj q).symm
    subst ey
    have hT2 := (sb.2 _ (Nat.ne_of_gt lte)).trans hT
    have new : ObjOk X.prog X.w (upd H s.heap.objs.size (.tup [.int (i : Nat), x])) h2 s.heap.objs.size (.tup [.int (i : Nat), x]) := ⟨by show 2 ≤ sizeLine; decide, [.int i tk, y], .cons ⟨_, rfl⟩ (.cons ru .nil), ⟨_, hT2, rfl, _, rfl⟩⟩
    have kp : ∀ b ob, b ∉ [e, it] → s.heap.get? b = some ob → h2.get? b = some ob := fun b ob hb q => by
      have n1 : b ≠ e := fun z => hb (by simp [z])
      have n2 : b ≠ it := fun z => hb (by simp [z])
      exact (sb.2 b n1).trans (hk b ob n1 n2 q)
    have I1 := I.turnedNew (t' := tk + 1) (ch := [e, it]) kp hf (Nat.le_refl _) new
    refine ⟨.ref s.heap.objs.size, _, I1, rfl, ⟨_, x, rfl, I.hok.fresh (Nat.le_refl _), rfl, fun ys hy => by rw [rd_inj hy hq]; exact hx⟩, ⟨⟨y, ?_⟩, st'.1.at fun o q => (sb.2 it (Ne.symm hne)).trans q, hne⟩, fun b hb => ?_⟩
    · rw [show ((i + 1 : Nat) : Int) = (i : Int) + 1 by omega]
      exact he2
    · have hb2 : b < s.heap.objs.size := by
        rcases (show b = e ∨ b = it by simpa using hb) with rfl | rfl
        · exact lte
        · exact lti
      rw [upd_ne (Nat.ne_of_lt hb2)]
      exact (hf b hb).1
def iEnumT (ta : TA) : TI := fun σ H R => ta σ H fun vs H1 => ∃ a xs, vs = [.ref a] ∧ Rd H1 a (.tup xs) ∧ R (Iet a) H1
theorem pi_enumT {X : Cx} {e : Expr} {ta : TA} {p pos tpos : Pos} {elts : List Expr} {kk : Nat} (hg : Gl X "enumerate") (hm : X.mg "enumerate" = none) (ha : PA X [e] ta) (hs : starEach [e] X.env = [(false, eval e X.env)] := by rfl) :
    PI X (.Tuple elts kk tpos) (.Call (.Name "enumerate" p) [e] [] pos) (iEnumT ta) := by
  constructor
  intro pins s σ H R I h
  refine Call_ (ld_blt I hg hm boot_enumerate (PyProof.Rows.callWith_type1 ?_ hs rfl))
  apply thn (ha.run pos pins s σ H _ I h)
  rintro us s1 ⟨vs, H1, I1, r1, a, xs, rfl, hq, q⟩
  cases r1 with
  | cons r rr =>
    cases rr
    cases r
    obtain ⟨its, rv, p', hz⟩ := I1.tuple (.inl hq)
    refine call_enumT p' fun h' he hit hk => wpAny_pyIter_enum he ?_
    have I2 : Inv X pins σ H1 { s1 with heap := h' } := I1.kept (t' := s1.toks) hk
    refine ⟨s1.heap.objs.size + 1, [s1.heap.objs.size + 1, s1.heap.objs.size], _, _, H1, rfl, I2, turn_enumT a _ _, ⟨⟨.none, he⟩, hit, Nat.succ_ne_self _⟩, fun b hb => ?_, q⟩
    have hle : s1.heap.objs.size ≤ b := by
      have z : b = s1.heap.objs.size + 1 ∨ b = s1.heap.objs.size := by simpa using hb
      rcases z with z | z
      · rw [z]; exact Nat.le_succ _
      · rw [z]; exact Nat.le_refl _
    exact I1.fpOk hle (I1.hok.fresh hle)
/-! ### by data -/
def enumD (ds : List Dd) : List Dd := (List.range ds.length).zipWith (fun (i : Nat) d => Dd.utp [.int (i : Int), d]) ds
theorem enumD_length (ds : List Dd) : (enumD ds).length = ds.length := by simp [enumD]
theorem enumD_get {ds : List Dd} {i : Nat} {d : Dd} (h : ds[i]? = some d) : (enumD ds)[i]? = some (.utp [.int (i : Int), d]) := by
  obtain ⟨hi, e⟩ := List.getElem?_eq_some_iff.mp h
  simp [enumD, List.getElem?_zipWith, hi, e]
theorem walkD_enumT {a : Addr} {xs : List V} {ds : List Dd} {Hf : Hp} (h : Rd Hf a (.tup xs)) (r : RepAll Hf xs ds) : WalkD (Iet a) (enumD ds) Hf := by
  refine ⟨fun i H hi s => ?_, fun H s => ⟨xs, rd_mono s h, by rw [enumD_length, r.length]⟩, fun i Hf1 H x H' hi s s1 y => ?_⟩
  · rw [enumD_length, ← r.length] at hi
    exact ⟨xs, xs[i], rd_mono s h, List.getElem?_eq_getElem hi⟩
  · obtain ⟨T, z, rfl, hT, rfl, hz⟩ := y
    have hx := hz xs (rd_mono s1 (rd_mono s h))
    obtain ⟨d, h1, h2⟩ := r.get hx
    exact ⟨_, _, Grow.one s1 hT, enumD_get h1, .utp (.inl upd_same) (.cons (.int _) (.cons ((h2.mono s).mono (Grow.one s1 hT).fz) .nil))⟩
theorem walkD_enumL {K : PySem.W.Frag} {a : Addr} {xs : List V} {ds : List Dd} {Hf : Hp} (h : Hf a = some (.lst xs)) (r : RepAll Hf xs ds) : WalkD (Ite K a) (enumD ds) Hf := by
  have w : Walk (Ite K a) xs.length (fun H => SqL K H a xs) (YPair (fun i => some (.int (i : Nat))) (fun i => xs[i]?)) := walk_enum
  refine ⟨fun i H hi s => w.goes i H (by rw [enumD_length, ← r.length] at hi; exact hi) (.of (s _ _ h)), fun H s => by rw [enumD_length, ← r.length]; exact w.stops H (.of (s _ _ h)), fun i Hf1 H x H' hi s s1 y => ?_⟩
  rw [enumD_length, ← r.length] at hi
  obtain ⟨T, x1, x2, rfl, hT, rfl, e1, e2⟩ := w.yields i H x H' hi (.of (s1 _ _ (s _ _ h))) y
  cases e1
  obtain ⟨d, h1, h2⟩ := r.get e2
  exact ⟨_, _, Grow.one s1 hT, enumD_get h1, .utp (.inl upd_same) (.cons (.int _) (.cons ((h2.mono s).mono (Grow.one s1 hT).fz) .nil))⟩
section
variable {X : Cx} {W : WX} {e : Expr} {es : List Expr} {pos p tpos : Pos} {elts : List Expr} {kk : Nat} {wa : WA}
def wIET (wa : WA) : WA := fun sl M Q E => wa sl M (fun ds M1 => ∃ d es, ds = [d] ∧ der M1 d = .tup es ∧ Q (enumD es) M1) E
def wIEL (wa : WA) : WA := fun sl M Q E => wa sl M (fun ds M1 => ∃ es, ds = [.lst es] ∧ Q (enumD es) M1) E
theorem i_enumT (hg : Gl X "enumerate") (hm : X.mg "enumerate" = none) (ha : PA X [e] (lowA W wa)) (hs : starEach [e] X.env = [(false, eval e X.env)] := by rfl) : PI X (.Tuple elts kk tpos) (.Call (.Name "enumerate" p) [e] [] pos) (lowI W (wIET wa)) := by
  refine PI.imp (pi_enumT hg hm ha hs) fun σ H R ⟨sl, Hf, M, Qd, Xd, rl, w, k, kx⟩ => ⟨sl, Hf, M, _, Xd, rl, w, fun ds Hf1 M1 vs H1 s1 r1 w1 => ?_, kx⟩
  obtain ⟨d, es, rfl, hd, q⟩ := w1
  cases r1 with
  | cons h r =>
    cases r
    have rt := RepT.of s1.wd h
    rw [hd] at rt
    obtain ⟨a, xs, rfl, ha, ra⟩ := rt.tup
    exact ⟨a, xs, rfl, rd_mono s1.wd.le ha, k _ Hf1 M1 _ H1 s1 (walkD_enumT ha ra) q⟩
theorem i_enumL (hg : Gl X "enumerate") (hm : X.mg "enumerate" = none) (ha : PA X [e] (lowA W wa)) (hs : starEach [e] X.env = [(false, eval e X.env)] := by rfl) : PI X (.Tuple elts kk tpos) (.Call (.Name "enumerate" p) [e] [] pos) (lowI W (wIEL wa)) := by
  refine PI.imp (pi_enum hg hm ha hs) fun σ H R ⟨sl, Hf, M, Qd, Xd, rl, w, k, kx⟩ => ⟨sl, Hf, M, _, Xd, rl, w, fun ds Hf1 M1 vs H1 s1 r1 w1 => ?_, kx⟩
  obtain ⟨es, rfl, q⟩ := w1
  cases r1 with
  | cons h r =>
    cases r
    cases h with
    | @lst a xs _ ha ra => exact ⟨a, xs, rfl, .of (s1.wd.le _ _ ha), k _ Hf1 M1 _ H1 s1 (walkD_enumL ha ra) q⟩
/-- a text's signs -/
def signs (x : Str) : List Dd := x.cps.toList.map fun c => .str ⟨#[c]⟩
def wIS (we : DL.WE) : WA := fun sl M Q E => we sl M (fun d M1 => ∃ x, d = .str x ∧ Q (signs x) M1) E
theorem walkD_str {x : Str} {Hf : Hp} : WalkD (Its x) (signs x) Hf := by
  have hl : (signs x).length = x.cps.size := by simp [signs]
  refine ⟨fun i H hi s => walk_str.goes i H (by rw [hl] at hi; exact hi) True.intro, fun H s => by rw [hl]; exact walk_str.stops H True.intro, fun i Hf1 H v H' hi s s1 y => ?_⟩
  rw [hl] at hi
  obtain ⟨rfl, c, hc, rfl⟩ := walk_str.yields i H v H' hi True.intro y
  refine ⟨Hf1, .str ⟨#[c]⟩, Grow.refl s1, ?_, .str _⟩
  simp only [signs, List.getElem?_map, Array.getElem?_toList, hc, Option.map_some]
theorem i_str {tg : Expr} {we : DL.WE} (he : PE X e (low W we)) : PI X tg e (lowI W (wIS we)) := by
  refine PI.imp (pi_str he) fun σ H R ⟨sl, Hf, M, Qd, Xd, rl, w, k, kx⟩ => ⟨sl, Hf, M, _, Xd, rl, w, fun d Hf1 M1 v H1 s1 r1 w1 => ?_, kx⟩
  obtain ⟨x, rfl, q⟩ := w1
  cases r1
  exact ⟨x, rfl, k _ Hf1 M1 _ H1 s1 walkD_str q⟩
end
end DL
/-! DL7: subscripts, slices, built-ins, methods of built-ins, by data. -/
namespace DL
open PySem PySem.Spec PyProof.Rows L2
section
variable {X : Cx} {W : WX} {a b e o : Expr} {es : List Expr} {pos apos p2 : Pos} {wa wb we wo : DL.WE}
/-! ### x[i] -/
def gIx : Dd → Dd → Option Dd
  | .lst ds, .int i => atI ds i
  | .tup ds, .int i => atI ds i
  | .str z, .int i => if z.length ≤ 100000 then (atI z.cps.toList i).map fun c => .str ⟨#[c]⟩ else none
  | _, _ => none
theorem atI_rep {H : Hp} {vs : List V} {ds : List Dd} {i : Int} {d : Dd} (r : RepAll H vs ds) (h : atI ds i = some d) : ∃ v, atI vs i = some v ∧ Rep H v d := by
  unfold atI at h ⊢
  rw [r.length]
  cases hj : ixN ds.length i with
  | none => rw [hj] at h; cases h
  | some j =>
    rw [hj] at h
    exact r.getD (show ds[j]? = some d from h)
theorem d_ix (ha : PE X a (low W wa)) (hb : PE X b (low W wb)) (hs : PlainIx b) : PE X (.Subscript a b pos) (low W (wOp gIx wa wb)) := by
  refine PE.imp (pe_ix (r := fun x y H Q => (rIxL X.K x y H Q ∨ rIxT X.K x y H Q) ∨ rIxS x y H Q) ?_ ha hb hs) (low_op fun Hf M H x y d e z Q w hx hy hz q => ?_)
  · intro value slice pins s σ H x y v u Q I rx ry h hsub
    rcases h with (h | h) | h
    · exact ix_list value slice pins s σ H x y v u Q I rx ry h hsub
    · exact ix_tup value slice pins s σ H x y v u Q I rx ry h hsub
    · exact ix_str value slice pins s σ H x y v u Q I rx ry h hsub
  · cases d with
    | lst ds =>
      cases e with
      | int i =>
        obtain ⟨p, vs, rfl, hp, r⟩ := hx.lst w.le
        obtain ⟨v, h1, h2⟩ := atI_rep r hz
        exact .inl (.inl ⟨p, vs, i, v, rfl, hy.int, .of hp, h1, q v Hf H (Grow.refl w.le) h2⟩)
      | _ => cases hz
    | tup ds =>
      cases e with
      | int i =>
        obtain ⟨p, vs, rfl, hp, r⟩ := hx.tup
        obtain ⟨v, h1, h2⟩ := atI_rep r hz
        exact .inl (.inr ⟨p, vs, i, v, rfl, hy.int, .inl (rd_mono w.le hp), h1, q v Hf H (Grow.refl w.le) h2⟩)
      | _ => cases hz
    | str z' =>
      cases e with
      | int i =>
        simp only [gIx] at hz
        split at hz
        · rename_i c
          simp only [Option.map_eq_some_iff] at hz
          obtain ⟨ch, h1, rfl⟩ := hz
          exact .inr ⟨z', i, ch, hx.str, hy.int, sz5 c, h1, q _ Hf H (Grow.refl w.le) (.str _)⟩
        · cases hz
      | _ => cases hz
    | _ => cases hz
/-! ### x[i:j] -/
abbrev WO := DS → MS → (Option Int → MS → Prop) → XD → Prop
def lowO (W : WX) (w : WO) : TO := fun σ H Q => ∃ sl Hf M Qd Xd, Rl sl Hf M σ H ∧ w sl M Qd Xd ∧ (∀ i Hf' M' H', Stp Hf M H Hf' M' H' → Qd i M' → Q i H') ∧ (∀ c Hf' M' H', Stp Hf M H Hf' M' H' → Xd c M' → W c none σ H')
def wNoPart : WO := fun _ M Q _ => Q none M
def wPart (w : DL.WE) : WO := fun sl M Q E => w sl M (fun d M1 => ∃ i, d = .int i ∧ Q (some i) M1) E
theorem PO.imp {oe : Option Expr} {t t' : TO} (h : PO X oe t) (q : ∀ σ H Q, t' σ H Q → t σ H Q) : PO X oe t' := ⟨fun pins s σ H Q I z => h.run pins s σ H Q I (q σ H Q z)⟩
theorem p_none : PO X none (lowO W wNoPart) := PO.imp po_none fun σ H Q ⟨sl, Hf, M, Qd, Xd, rl, w, k, _⟩ => k none Hf M H (Stp.refl rl.wd) w
theorem p_some (h : PE X e (low W we)) : PO X (some e) (lowO W (wPart we)) := PO.imp (po_some h) fun σ H Q ⟨sl, Hf, M, Qd, Xd, rl, w, k, kx⟩ => ⟨sl, Hf, M, _, Xd, rl, w, fun d Hf1 M1 v H1 s1 r1 w1 => by
  obtain ⟨i, rfl, q⟩ := w1
  cases r1
  exact ⟨i, rfl, k (some i) Hf1 M1 H1 s1 q⟩, kx⟩
/-- the part of a list -/
def cutD {α : Type} (xs : List α) (lo hi : Option Int) : List α := (xs.drop (HT.sIx xs.length 0 lo)).take (HT.sIx xs.length xs.length hi - HT.sIx xs.length 0 lo)
def gSl (d : Dd) (lo hi : Option Int) : Option Dd := match d with
  | .lst ds => some (.lst (cutD ds lo hi))
  | .tup ds => some (.tup (cutD ds lo hi))
  | _ => none
def wSl (we : DL.WE) (wl wh : WO) : DL.WE := fun sl M Q E => we sl M (fun d M1 => wl sl M1 (fun i M2 => wh sl M2 (fun j M3 => ∃ z, gSl (der M3 d) i j = some z ∧ Q z M3) E) E) E
theorem cut_rep {H : Hp} {vs : List V} {ds : List Dd} (r : RepAll H vs ds) (lo hi : Option Int) : RepAll H (cutV vs lo hi) (cutD ds lo hi) := by
  unfold cutV cutD
  rw [r.length]
  exact (r.drop _).take _
/-- t[lo:hi] -/
def rSlF (K : PySem.W.Frag) : V → Option Int → Option Int → Hp → VK → Prop := fun x lo hi H Q => ∃ a xs, x = .ref a ∧ SqT K H a xs ∧
  (HT.sIx xs.length 0 lo = 0 ∧ HT.sIx xs.length xs.length hi = xs.length → Q (.ref a) H) ∧ (¬ (HT.sIx xs.length 0 lo = 0 ∧ HT.sIx xs.length xs.length hi = xs.length) → ∀ p o, H p = none → o.dict = none → Q (.ref p) (upd H p (.frz o (.tup (cutV xs lo hi)))))
theorem sl_tupF : SlR X (rSlF X.K) := by
  rintro pins s σ H x v vl vu lo hi sl Q I rx hs pl pu ⟨a, xs, ex, hx, q1, q2⟩
  subst ex
  cases rx
  by_cases hw : HT.sIx xs.length 0 lo = 0 ∧ HT.sIx xs.length xs.length hi = xs.length
  · exact sl_tupA pins s σ H (.ref a) _ vl vu lo hi sl Q I rfl hs pl pu ⟨a, xs, rfl, hx, q1, fun z => absurd hw z⟩
  obtain ⟨its, r, ht, hz⟩ := I.tuple hx
  have en : its.toArray.size = xs.length := by rw [List.size_toArray, r.length]
  refine ⟨"tuple", _, PyProof.Rows.slot_tuple_getitem.lookup, ht.typeIs, ?_⟩
  apply HT.getItem_tuple_cut ht hs pl pu (by rw [en]; exact hw) _ (by rw [en]; exact hz)
  have rr := (r.drop (HT.sIx xs.length 0 lo)).take (HT.sIx xs.length xs.length hi - HT.sIx xs.length 0 lo)
  rw [en]
  exact ⟨.ref s.heap.objs.size, _, I.laid (t' := s.toks) (fun _ _ q => Heap.get?_push_of_some _ q) (Nat.le_refl _) (tOb_ok rr (Nat.le_trans (cutV_length xs lo hi) hz)), rfl, q2 hw _ _ (I.hok.fresh (Nat.le_refl _)) rfl⟩
theorem cut_whole {α : Type} {xs : List α} {lo hi : Option Int} (h : HT.sIx xs.length 0 lo = 0 ∧ HT.sIx xs.length xs.length hi = xs.length) : cutD xs lo hi = xs := by
  unfold cutD
  rw [h.1, h.2]
  simp
theorem d_slice {lo hi : Option Expr} {wl wh : WO} (he : PE X e (low W we)) (hl : PO X lo (lowO W wl)) (hh : PO X hi (lowO W wh)) : PE X (.Subscript e (.Slice lo hi none p2) pos) (low W (wSl we wl wh)) := by
  refine PE.imp (pe_slice (SlR.or sl_list sl_tupF) he hl hh) fun σ H Q ⟨sl, Hf, M, Qd, Xd, rl, w, k, kx⟩ => ⟨sl, Hf, M, _, Xd, rl, w, fun d Hf1 M1 v H1 s1 r1 w1 => ?_, kx⟩
  refine ⟨sl, Hf1, M1, _, Xd, rl.step s1, w1, fun i Hf2 M2 H2 s2 w2 => ?_, fun c Hf' M' H' s q => kx c Hf' M' H' (s1.trans s) q⟩
  refine ⟨sl, Hf2, M2, _, Xd, rl.step (s1.trans s2), w2, fun j Hf3 M3 H3 s3 w3 => ?_, fun c Hf' M' H' s q => kx c Hf' M' H' ((s1.trans s2).trans s) q⟩
  obtain ⟨z, hz, q⟩ := w3
  have s4 := (s1.trans s2).trans s3
  have rt := RepT.of s3.wd (r1.mono (s2.trans s3).up)
  cases hd : der M3 d with
  | lst ds =>
    rw [hd] at rt hz
    cases hz
    obtain ⟨p, vs, rfl, hp, r⟩ := rt.lst s3.wd.le
    exact .inl ⟨p, vs, rfl, .of hp, fun p' hp' => k _ _ M3 _ _ (s4.trans (Stp.grow s3.wd (Grow.one s3.wd.le hp'))) (.lst upd_same ((cut_rep r i j).mono (Grow.one s3.wd.le hp').fz)) q⟩
  | tup ds =>
    rw [hd] at rt hz
    cases hz
    have rf := rt.tupF
    obtain ⟨p, vs, rfl, hp, r⟩ := rt.tup
    refine .inr ⟨p, vs, rfl, .inl (rd_mono s3.wd.le hp), fun hw => ?_, fun _ p' o' hp' ho' => k _ _ M3 _ _ (s4.trans (Stp.grow s3.wd (Grow.one s3.wd.le hp'))) (.tup upd_same ho' ((cut_rep r i j).mono (Grow.one s3.wd.le hp').fz)) q⟩
    rw [r.length] at hw
    rw [cut_whole hw] at q
    exact k _ Hf3 M3 _ H3 s4 rf q
  | _ => rw [hd] at hz; cases hz
/-! ### calls of built-ins -/
def gLen : List Dd → Option Dd
  | [.lst ds] => some (.int ds.length)
  | [.tup ds] => some (.int ds.length)
  | [.str x] => if x.length ≤ 1000000 then some (.int x.length) else none
  | _ => none
theorem c_len : CallG X (.builtin "len") gLen := by
  refine ⟨_, call_len, fun Hf M H xs ds z Q w hx hz q => ?_⟩
  unfold gLen at hz
  split at hz
  · cases hz
    obtain ⟨v, rfl, h⟩ := hx.one
    obtain ⟨p, vs, rfl, hp, r⟩ := h.lst w.le
    refine ⟨_, vs.length, rfl, .inl ⟨vs, .of hp, rfl⟩, ?_⟩
    rw [r.length]
    exact q _ Hf H (Grow.refl w.le) (.int _)
  · cases hz
    obtain ⟨v, rfl, h⟩ := hx.one
    obtain ⟨p, vs, rfl, hp, r⟩ := h.tup
    refine ⟨_, vs.length, rfl, .inr ⟨vs, .inl (rd_mono w.le hp), rfl⟩, ?_⟩
    rw [r.length]
    exact q _ Hf H (Grow.refl w.le) (.int _)
  · split at hz
    · rename_i c
      cases hz
      obtain ⟨v, rfl, h⟩ := hx.one
      cases h.str
      exact ⟨_, _, rfl, ⟨Nat.le_trans c (by decide), rfl⟩, q _ Hf H (Grow.refl w.le) (.int _)⟩
    · cases hz
  · cases hz
/-- all, any: a list of truth values -/
def bls : List Dd → Option (List Bool)
  | [] => some []
  | .bl b :: ds => (bls ds).map fun bs => b :: bs
  | _ => none
theorem bls_rep {H : Hp} : ∀ {ds : List Dd} {vs : List V} {bs : List Bool}, RepAll H vs ds → bls ds = some bs → vs = bs.map V.bl
  | [], _, _, .nil, h => by cases h; rfl
  | d :: ds, _, bs, .cons h1 r, h => by
    cases d with
    | bl b =>
      simp only [bls, Option.map_eq_some_iff] at h
      obtain ⟨cs, h2, rfl⟩ := h
      cases h1
      rw [bls_rep r h2]
      rfl
    | _ => cases h
theorem bls_map {α : Type} (f : α → Bool) (xs : List α) : bls (xs.map fun x => .bl (f x)) = some (xs.map f) := by
  induction xs with
  | nil => rfl
  | cons x xs ih => simp [bls, ih]
def gAll : List Dd → Option Dd
  | [.lst ds] => (bls ds).map fun bs => .bl (bs.all id)
  | _ => none
def gAny : List Dd → Option Dd
  | [.lst ds] => (bls ds).map fun bs => .bl (bs.any id)
  | _ => none
theorem c_all (hc : X.calm = true) : CallG X (.builtin "all") gAll := by
  refine ⟨_, cr_all hc, fun Hf M H xs ds z Q w hx hz q => ?_⟩
  unfold gAll at hz
  split at hz
  · simp only [Option.map_eq_some_iff] at hz
    obtain ⟨bs, hb, rfl⟩ := hz
    obtain ⟨v, rfl, h⟩ := hx.one
    obtain ⟨p, vs, rfl, hp, r⟩ := h.lst w.le
    exact ⟨p, bs, rfl, .of (by rw [hp, bls_rep r hb]), q _ Hf H (Grow.refl w.le) (.bl _)⟩
  · cases hz
theorem c_any (hc : X.calm = true) : CallG X (.builtin "any") gAny := by
  refine ⟨_, cr_any hc, fun Hf M H xs ds z Q w hx hz q => ?_⟩
  unfold gAny at hz
  split at hz
  · simp only [Option.map_eq_some_iff] at hz
    obtain ⟨bs, hb, rfl⟩ := hz
    obtain ⟨v, rfl, h⟩ := hx.one
    obtain ⟨p, vs, rfl, hp, r⟩ := h.lst w.le
    exact ⟨p, bs, rfl, .of (by rw [hp, bls_rep r hb]), q _ Hf H (Grow.refl w.le) (.bl _)⟩
  · cases hz
def gTuple : List Dd → Option Dd
  | [.lst ds] => some (.tup ds)
  | [.tup ds] => some (.tup ds)
  | _ => none
def gList : List Dd → Option Dd
  | [.lst ds] => some (.lst ds)
  | [.tup ds] => some (.lst ds)
  | _ => none
/-- tuple(x): a new tuple's object is known -/
theorem call_tupleF : CallR X (.type "tuple") (fun xs H Q => ∃ p ys, xs = [.ref p] ∧ ((SqL X.K H p ys ∧ ∀ l o, H l = none → o.dict = none → Q (.ref l) (upd H l (.frz o (.tup ys)))) ∨ (SqT X.K H p ys ∧ Q (.ref p) H))) := by
  rintro pins s σ H xs us Q I r ⟨p, ys, ex, h⟩
  subst ex
  rcases h with ⟨hq, q⟩ | ⟨hq, q⟩
  · obtain ⟨u, eu, rx⟩ := vals1 r
    subst eu
    cases rx
    obtain ⟨its, rv, pl, hz⟩ := I.list hq
    apply call_tuple_list pl.isList _ (by rw [List.size_toArray, ← rv.length]; exact hz)
    intro h' kp
    have I1 : Inv X pins σ H { s with heap := h' } := I.kept (t' := s.toks) kp
    exact ⟨.ref _, _, I1.laid (t' := s.toks) (fun _ _ e => Heap.get?_push_of_some _ e) (Nat.le_refl _) (tOb_ok rv hz), rfl, q _ _ (I1.hok.fresh (Nat.le_refl _)) rfl⟩
  · exact call_tuple_of pins s σ H _ us Q I r ⟨p, ys, rfl, .inr ⟨hq, q⟩⟩
theorem c_tuple : CallG X (.type "tuple") gTuple := by
  refine ⟨_, call_tupleF, fun Hf M H xs ds z Q w hx hz q => ?_⟩
  unfold gTuple at hz
  split at hz
  · cases hz
    obtain ⟨v, rfl, h⟩ := hx.one
    obtain ⟨p, vs, rfl, hp, r⟩ := h.lst w.le
    exact ⟨p, vs, rfl, .inl ⟨.of hp, fun l o hl ho => q _ _ _ (Grow.one w.le hl) (.tup upd_same ho (r.mono (Grow.one w.le hl).fz))⟩⟩
  · cases hz
    obtain ⟨v, rfl, h⟩ := hx.one
    have hf := h.tupF
    obtain ⟨p, vs, rfl, hp, r⟩ := h.tup
    exact ⟨p, vs, rfl, .inr ⟨.inl (rd_mono w.le hp), q _ Hf H (Grow.refl w.le) hf⟩⟩
  · cases hz
theorem c_list : CallG X (.type "list") gList := by
  refine ⟨_, call_list_of, fun Hf M H xs ds z Q w hx hz q => ?_⟩
  unfold gList at hz
  split at hz
  · cases hz
    obtain ⟨v, rfl, h⟩ := hx.one
    obtain ⟨p, vs, rfl, hp, r⟩ := h.lst w.le
    exact ⟨p, vs, rfl, .inl (.of hp), fun l hl => q _ _ _ (Grow.one w.le hl) (.lst upd_same (r.mono (Grow.one w.le hl).fz))⟩
  · cases hz
    obtain ⟨v, rfl, h⟩ := hx.one
    obtain ⟨p, vs, rfl, hp, r⟩ := h.tup
    exact ⟨p, vs, rfl, .inr (.inl (rd_mono w.le hp)), fun l hl => q _ _ _ (Grow.one w.le hl) (.lst upd_same (r.mono (Grow.one w.le hl).fz))⟩
  · cases hz
def gMax2 : List Dd → Option Dd
  | [.int i, .int j] => some (.int (if j > i then j else i))
  | _ => none
def gMin2 : List Dd → Option Dd
  | [.int i, .int j] => some (.int (if j < i then j else i))
  | _ => none
theorem c_max2 (hc : X.calm = true) : CallG X (.builtin "max") gMax2 := by
  refine ⟨_, call_max2 hc, fun Hf M H xs ds z Q w hx hz q => ?_⟩
  unfold gMax2 at hz
  split at hz
  · cases hz
    obtain ⟨v, u, rfl, h, h'⟩ := hx.two
    cases h.int
    cases h'.int
    exact ⟨_, _, rfl, q _ Hf H (Grow.refl w.le) (.int _)⟩
  · cases hz
theorem c_min2 (hc : X.calm = true) : CallG X (.builtin "min") gMin2 := by
  refine ⟨_, call_min2 hc, fun Hf M H xs ds z Q w hx hz q => ?_⟩
  unfold gMin2 at hz
  split at hz
  · cases hz
    obtain ⟨v, u, rfl, h, h'⟩ := hx.two
    cases h.int
    cases h'.int
    exact ⟨_, _, rfl, q _ Hf H (Grow.refl w.le) (.int _)⟩
  · cases hz
def gStr : List Dd → Option Dd
  | [.int i] => if i.natAbs < 2 ^ 64 then some (.str (toString i)) else none
  | _ => none
theorem log64 {n : Nat} (h : n < 2 ^ 64) : n.log2 < 1920 := by
  by_cases h0 : n = 0
  · subst h0; decide
  · have := (Nat.log2_lt h0).mpr h
    omega
theorem c_str : CallG X (.type "str") gStr := by
  refine ⟨_, call_str_int, fun Hf M H xs ds z Q w hx hz q => ?_⟩
  unfold gStr at hz
  split at hz
  · split at hz
    · rename_i c
      cases hz
      obtain ⟨v, rfl, h⟩ := hx.one
      cases h.int
      exact ⟨_, rfl, log64 c, q _ Hf H (Grow.refl w.le) (.str _)⟩
    · cases hz
  · cases hz
def gInt : List Dd → Option Dd
  | [.str a] => if a.length ≤ 640 then (PySem.intText? a).map Dd.int else none
  | _ => none
theorem c_int : CallG X (.type "int") gInt := by
  refine ⟨_, call_int_str, fun Hf M H xs ds z Q w hx hz q => ?_⟩
  unfold gInt at hz
  split at hz
  · split at hz
    · rename_i c
      simp only [Option.map_eq_some_iff] at hz
      obtain ⟨n, hn, rfl⟩ := hz
      obtain ⟨v, rfl, h⟩ := hx.one
      cases h.str
      exact ⟨_, n, rfl, hn, c, q _ Hf H (Grow.refl w.le) (.int _)⟩
    · cases hz
  · cases hz
/-- repr of a list or a tuple -/
def gRepr : List Dd → Option Dd
  | [d] => (match d with
    | .lst _ => (py d).bind fun p => if p.showable = true ∧ p.depth ≤ 64 ∧ p.shown.length ≤ 1000000 then some (.str p.shown) else none
    | .tup _ => (py d).bind fun p => if p.showable = true ∧ p.depth ≤ 64 ∧ p.shown.length ≤ 1000000 then some (.str p.shown) else none
    | _ => none)
  | _ => none
mutual
theorem py_nodict : ∀ {d : Dd} {p : PyData}, py d = some p → p.hasDict = false
  | .non, _, h => by cases h; rfl
  | .bl b, _, h => by cases h; rfl
  | .int i, _, h => by cases h; rfl
  | .str x, _, h => by cases h; rfl
  | .lst ds, p, h => by
    obtain ⟨ps, h1, rfl⟩ := py_lst h
    simp only [PyData.hasDict]
    exact pyAll_nodict h1
  | .tup ds, p, h => by
    obtain ⟨ps, h1, rfl⟩ := py_tup h
    simp only [PyData.hasDict]
    exact pyAll_nodict h1
  | .utp _, _, h => by cases h
  | .ins _ _ _, _, h => by cases h
  | .dic _ _, _, h => by cases h
  | .scr _ _, _, h => by cases h
  | .raw _, _, h => by cases h
theorem pyAll_nodict : ∀ {ds : List Dd} {ps : List PyData}, pyAll ds = some ps → PyData.hasDictAll ps = false
  | [], _, h => by cases h; rfl
  | _ :: _, _, h => by
    obtain ⟨p, qs, e1, e2, rfl⟩ := pyAll_cons h
    simp only [PyData.hasDictAll, py_nodict e1, pyAll_nodict e2, Bool.or_self]
end
theorem c_repr (bA : X.A.guards = some []) (hu : X.A.units + 150 < cLine) : CallG X (.builtin "repr") gRepr := by
  refine ⟨fun xs H Q => ∃ a p, xs = [.ref a] ∧ Dp X.K H (.ref a) p ∧ p.showable = true ∧ p.hasDict = false ∧ p.depth ≤ 64 ∧ p.shown.length ≤ sizeLine ∧ Q (.str p.shown) H, ?_, ?_⟩
  · intro pins s σ H xs us Q I r ⟨a, p, e, hd, hs, hn, hdp, hz, q⟩
    subst e
    obtain ⟨u, rfl, ru⟩ := vals1 r
    cases (show u = Value.ref a from ru)
    obtain ⟨as, rd⟩ := Dp.reads I p (.ref a) (.ref a) hd rfl
    exact repr_of_reads' rd hs (fun z => by rw [hn] at z; cases z) bA (by omega) (fun _ _ z => z) (fun h' u tk hk => ⟨.str _, H, I.kept hk, ⟨_, rfl⟩, q⟩) hz
  · intro Hf M H xs ds z Q w hx hz q
    have main : ∀ d, ds = [d] → (∀ v, RepT Hf M H v d → ∃ a, v = V.ref a) → ((py d).bind fun p => if p.showable = true ∧ p.depth ≤ 64 ∧ p.shown.length ≤ 1000000 then some (Dd.str p.shown) else none) = some z →
        ∃ a p, xs = [V.ref a] ∧ Dp X.K H (.ref a) p ∧ p.showable = true ∧ p.hasDict = false ∧ p.depth ≤ 64 ∧ p.shown.length ≤ sizeLine ∧ Q (.str p.shown) H := by
      intro d ed hr hz2
      subst ed
      obtain ⟨p, hp, hz2⟩ := Option.bind_eq_some_iff.mp hz2
      split at hz2
      · rename_i c
        cases hz2
        obtain ⟨v, rfl, h⟩ := hx.one
        obtain ⟨a, rfl⟩ := hr v h
        exact ⟨a, p, rfl, (h.rep w.le).dp hp, c.1, py_nodict hp, c.2.1, Nat.le_trans c.2.2 (by decide), q _ Hf H (Grow.refl w.le) (.str _)⟩
      · cases hz2
    unfold gRepr at hz
    split at hz
    · rename_i d
      split at hz
      · exact main _ rfl (fun v h => by obtain ⟨a, _, e, _⟩ := h.lst w.le; exact ⟨a, e⟩) hz
      · exact main _ rfl (fun v h => by obtain ⟨a, _, e, _⟩ := h.tup; exact ⟨a, e⟩) hz
      · cases hz
    · cases hz
end
end DL
/-! DL8: isinstance, methods of texts and lists, f-strings, raise. -/
namespace DL
open PySem PySem.Spec PyProof.Rows L2
section
variable {X : Cx} {W : WX} {a b e o : Expr} {es : List Expr} {pos apos p2 : Pos} {wa wb we wo : DL.WE}
/-! ### isinstance -/
/-- what isinstance wants of an own class -/
structure IsiC (K : PySem.W.Frag) (C : Addr) : Prop where
  cl : Cls K C
  ha : PySem.W.findIn K (.ref C) "__class__" = some (some (.builtin "object.__class__"))
  hn : PySem.W.specialIn K (.builtin "object.__class__") "__get__" = some (some (.builtin "getset_descriptor.__get__"))
  ht : PySem.W.takesIn K (.builtin "object.__class__") = some true
  hm : PySem.W.mroIn K C (.type "object") = some true
/-- a datum's class; own classes: those that cs names -/
def tyD (cs : List Addr) : Dd → Option Value
  | .non => some (.type "NoneType")
  | .bl _ => some (.type "bool")
  | .int _ => some (.type "int")
  | .str _ => some (.type "str")
  | .lst _ => some (.type "list")
  | .tup _ => some (.type "tuple")
  | .utp _ => some (.type "tuple")
  | .dic _ _ => some (.type "dict")
  | .scr _ _ => none
  | .ins C _ _ => if C ∈ cs then some (.ref C) else none
  | .raw _ => none
def clsD : Dd → Option Value
  | .raw (.ty n) => some (.type n)
  | .raw (.ref C) => some (.ref C)
  | _ => none
def gIsi (K : PySem.W.Frag) (cs : List Addr) : List Dd → Option Dd
  | [d, c] => (tyD cs d).bind fun t => (clsD c).bind fun u => (PySem.W.kitOne K t u).map Dd.bl
  | _ => none
theorem isi_kit {pins : List (Addr × Obj)} {σ : L2.St} {H Hf : Hp} {M : MS} {s : Shared} {cs : List Addr} {d : Dd} {v : V} {u t : Value} (hcs : ∀ C ∈ cs, IsiC X.K C) (I : Inv X pins σ H s) (l : Same Hf H) (h : RepT Hf M H v d) (r : RelV v u) (ht : tyD cs d = some t) :
    ∃ P : Heap → Prop, PySem.W.KitX X.K u t P ∧ P s.heap ∧ u ≠ .builtin "__main__.__loader__#opaque" := by
  have q := h.rep l
  cases q with
  | non => cases ht; exact kit_of I r (.base .non)
  | bl b => cases ht; exact kit_of I r (.base (.bl b))
  | int i => cases ht; exact kit_of I r (.base (.int i))
  | str x => cases ht; exact kit_of I r (.base (.str x))
  | lst hh _ => cases ht; exact kit_of I r (.base (.lst hh))
  | @utp a xs ds hh _ =>
    cases ht
    cases (show u = Value.ref a from r)
    obtain ⟨_, _, _, o, h1, h2, _⟩ := hh.ok I.hok
    exact ⟨_, PySem.W.kitx_tuple, ⟨o, h1, h2⟩, fun z => nomatch z⟩
  | @tup a o xs ds hh _ _ =>
    cases ht
    cases (show u = Value.ref a from r)
    obtain ⟨_, _, _, o, h1, h2, _⟩ := (show Rd H a (.tup xs) from .inr ⟨_, hh⟩).ok I.hok
    exact ⟨_, PySem.W.kitx_tuple, ⟨o, h1, h2⟩, fun z => nomatch z⟩
  | dic hh _ _ => cases ht; exact kit_of I r (.base (.dK hh))
  | scr _ => cases ht
  | @ins a C dx fs ks ds hh _ _ =>
    simp only [tyD] at ht
    split at ht
    · rename_i hC
      cases ht
      have c := hcs C hC
      exact kit_of I r (.base (.ins hh c.cl c.ha c.hn c.ht c.hm))
    · cases ht
  | raw _ => cases ht
theorem c_isi {cs : List Addr} (hcs : ∀ C ∈ cs, IsiC X.K C) : CallG X (.builtin "isinstance") (gIsi X.K cs) := by
  refine ⟨fun xs H Q => ∃ (Hf : Hp) (M : MS) (v c : V) (d : Dd) (t u : Value) (b : Bool), xs = [v, c] ∧ Same Hf H ∧ RepT Hf M H v d ∧ ClsV c u ∧ tyD cs d = some t ∧ PySem.W.kitOne X.K t u = some b ∧ Q (.bl b) H, ?_, ?_⟩
  · intro pins s σ H xs us Q I r ⟨Hf, M, v, c, d, t, u, b, e, l, hv, hc, ht, hk, q⟩
    subst e
    obtain ⟨u1, u2, rfl, r1, r2⟩ := vals2 r
    have e2 := hc.eq r2
    subst e2
    obtain ⟨P, kx, hp, hne⟩ := isi_kit hcs I l hv r1 ht
    exact PySem.W.kia_one kx I.kIn hp hk hne fun tk => ⟨.bl b, H, I.tok tk, rfl, q⟩
  · intro Hf M H xs ds z Q w hx hz q
    unfold gIsi at hz
    split at hz
    · simp only [Option.bind_eq_some_iff, Option.map_eq_some_iff] at hz
      obtain ⟨t, ht, u, hu, b, hb, rfl⟩ := hz
      obtain ⟨v, c, rfl, h1, h2⟩ := hx.two
      have hc : ClsV c u := by
        have z := h2.rep w.le
        unfold clsD at hu
        split at hu
        · cases hu; cases z; exact .ty _
        · cases hu; cases z; exact .own _
        · cases hu
      exact ⟨Hf, M, v, c, _, t, u, b, rfl, w.le, h1, hc, ht, hb, q _ Hf H (Grow.refl w.le) (.bl _)⟩
    · cases hz
/-! ### methods of texts -/
def wM1 (g : Dd → Dd → Option Dd) (wo we : DL.WE) : DL.WE := fun sl M Q E => wo sl M (fun d M1 => (∃ a, d = .str a) ∧ we sl M1 (fun e M2 => ∃ z, g d (der M2 e) = some z ∧ Q z M2) E) E
theorem low_m1 {r : V → List V → Hp → VK → Prop} {g : Dd → Dd → Option Dd} (hr : ∀ (Hf : Hp) (M : MS) (H : Hp) (x : Str) (y : V) (e z : Dd) (Q : VK), Wd Hf M H → RepT Hf M H y e → g (.str x) e = some z → (∀ v Hf' H', Grow Hf H Hf' H' → Rep Hf' v z → Q v H') → r (.str x) [y] H Q) :
    ∀ σ H Q, low W (wM1 g wo we) σ H Q → tM1 r (low W wo) (low W we) σ H Q := by
  rintro σ H Q ⟨sl, Hf, M, Qd, Xd, rl, w, k, kx⟩
  refine ⟨sl, Hf, M, _, Xd, rl, w, fun d Hf1 M1 v H1 s1 r1 w1 => ?_, kx⟩
  obtain ⟨⟨x, rfl⟩, w1⟩ := w1
  cases r1
  refine ⟨⟨x, rfl⟩, sl, Hf1, M1, _, Xd, rl.step s1, w1, fun e Hf2 M2 u H2 s2 r2 w2 => ?_, fun c Hf2 M2 H2 s2 hx => kx c Hf2 M2 H2 (s1.trans s2) hx⟩
  obtain ⟨z, hz, q⟩ := w2
  exact hr Hf2 M2 H2 x u _ z _ s2.wd (RepT.of s2.wd r2) hz fun v' Hf' H' sm rz => k z Hf' M2 v' H' ((s1.trans s2).trans (Stp.grow s2.wd sm)) rz q
def gSplit : Dd → Dd → Option Dd
  | .str a, .str b => if (b.length == 0) = false ∧ a.length ≤ 1000000 then some (.lst ((Txt.split a b).map Dd.str)) else none
  | _, _ => none
theorem repAll_strs {H : Hp} : ∀ ys : List Str, RepAll H (ys.map V.str) (ys.map Dd.str)
  | [] => .nil
  | y :: ys => .cons (.str y) (repAll_strs ys)
theorem d_split (ho : PE X o (low W wo)) (he : PE X e (low W we)) (hs : starEach [e] X.env = [(false, eval e X.env)] := by rfl) (hbase : attributeBase o "split" X.env (eval o X.env) = eval o X.env := by rfl) (hline : (apos.endLine == pos.line) = true := by rfl) :
    PE X (.Call (.Attribute o "split" apos) [e] [] pos) (low W (wM1 gSplit wo we)) := by
  refine PE.imp (pe_split ho he hs hbase hline) (low_m1 fun Hf M H x y e z Q w hy hz q => ?_)
  cases e with
  | str b =>
    simp only [gSplit] at hz
    split at hz
    · rename_i c
      cases hz
      cases hy.str
      refine ⟨x, b, rfl, rfl, c.1, ?_, fun p hp => q _ _ _ (Grow.one w.le hp) (.lst upd_same (repAll_strs _))⟩
      have : (1000000 : Nat) + 2 ≤ sizeLine := by decide
      omega
    · cases hz
  | _ => cases hz
def gEnds : Dd → Dd → Option Dd
  | .str a, .str b => some (.bl (Txt.endswith a b))
  | _, _ => none
theorem d_endswith (ho : PE X o (low W wo)) (he : PE X e (low W we)) (hs : starEach [e] X.env = [(false, eval e X.env)] := by rfl) (hbase : attributeBase o "endswith" X.env (eval o X.env) = eval o X.env := by rfl) (hline : (apos.endLine == pos.line) = true := by rfl) :
    PE X (.Call (.Attribute o "endswith" apos) [e] [] pos) (low W (wM1 gEnds wo we)) := by
  refine PE.imp (pe_m1 F.slot_str_endswith F.type_str_endswith mt_endswith ho he hs hbase hline) (low_m1 fun Hf M H x y e z Q w hy hz q => ?_)
  cases e with
  | str b =>
    cases hz
    cases hy.str
    exact ⟨x, b, rfl, rfl, q _ Hf H (Grow.refl w.le) (.bl _)⟩
  | _ => cases hz
/-- the texts of a list -/
def strsD : List Dd → Option (List Str)
  | [] => some []
  | .str x :: ds => (strsD ds).map fun xs => x :: xs
  | _ => none
theorem strsD_map (ys : List Str) : strsD (ys.map Dd.str) = some ys := by
  induction ys with
  | nil => rfl
  | cons y ys ih => simp [strsD, ih]
theorem strs_rep {H : Hp} : ∀ {ds : List Dd} {vs : List V} {xs : List Str}, RepAll H vs ds → strsD ds = some xs → vs = xs.map V.str
  | [], _, _, .nil, h => by cases h; rfl
  | d :: ds, _, xs, .cons h1 r, h => by
    cases d with
    | str x =>
      simp only [strsD, Option.map_eq_some_iff] at h
      obtain ⟨ys, h2, rfl⟩ := h
      cases h1
      rw [strs_rep r h2]
      rfl
    | _ => cases h
def gJoin : Dd → Dd → Option Dd
  | .str a, .lst ds => (strsD ds).bind fun ys => if (ys.map (·.length)).sum + ys.length * a.length ≤ 1000000 then some (.str (Txt.join a ys)) else none
  | _, _ => none
theorem d_join (ho : PE X o (low W wo)) (he : PE X e (low W we)) (hs : starEach [e] X.env = [(false, eval e X.env)] := by rfl) (hbase : attributeBase o "join" X.env (eval o X.env) = eval o X.env := by rfl) (hline : (apos.endLine == pos.line) = true := by rfl) :
    PE X (.Call (.Attribute o "join" apos) [e] [] pos) (low W (wM1 gJoin wo we)) := by
  refine PE.imp (pe_join ho he hs hbase hline) (low_m1 fun Hf M H x y e z Q w hy hz q => ?_)
  cases e with
  | lst ds =>
    simp only [gJoin, Option.bind_eq_some_iff] at hz
    obtain ⟨ys, hys, hz⟩ := hz
    split at hz
    · rename_i c
      cases hz
      obtain ⟨p, vs, rfl, hp, r⟩ := hy.lst w.le
      exact ⟨x, p, ys, rfl, rfl, .inl (.of (by rw [hp, strs_rep r hys])), Nat.le_trans c (by decide), q _ Hf H (Grow.refl w.le) (.str _)⟩
    · cases hz
  | _ => cases hz
/-! ### count -/
def wCount (wo we : DL.WE) : DL.WE := fun sl M Q E => wo sl M (fun d M1 => ∃ ds, (d = .lst ds ∨ d = .tup ds) ∧ we sl M1 (fun e M2 => ∃ ps p, pyAll ds = some ps ∧ py (der M2 e) = some p ∧ p.depth ≤ 64 ∧ Q (.int (ps.countP fun y => PyData.eqv y p : Nat)) M2) E) E
/-- methods by a single argument of a list or a star's tuple -/
theorem d_count (hu : X.A.units + 150 < cLine) (ho : PE X o (low W wo)) (he : PE X e (low W we)) (hbase : attributeBase o "count" X.env (eval o X.env) = eval o X.env := by rfl)
    (hfew : ((backTo pos (starEach [e] X.env)).all (fun x => !x.1) && (backToKw pos (keywordEach [] X.env)).all (fun x => x.1.isSome)
      && decide ([e].length + ([] : List Keyword).length + (if ([] : List Keyword).isEmpty then 0 else 1) < 30)) = true := by rfl)
    (hline : (apos.endLine == pos.line) = true := by rfl) (hs : starEach [e] X.env = (false, eval e X.env) :: starEach [] X.env := by rfl) (hplain : (backTo pos (starEach [] X.env)).any (·.1) = false := by rfl) :
    PE X (.Call (.Attribute o "count" apos) [e] [] pos) (low W (wCount wo we)) := by
  constructor
  rintro pins s σ H Q I ⟨sl, Hf, M, Qd, Xd, rl, w, k, kx⟩
  apply wpAny_Call_method_late hbase hfew hline rfl
  have L : low W wo σ H fun v H1 => ∃ ds Hf1 M1, Stp Hf M H Hf1 M1 H1 ∧ (Rep Hf1 v (.lst ds) ∨ Rep Hf1 v (.tup ds)) ∧ we sl M1 (fun e M2 => ∃ ps p, pyAll ds = some ps ∧ py (der M2 e) = some p ∧ p.depth ≤ 64 ∧ Qd (.int (ps.countP fun y => PyData.eqv y p : Nat)) M2) Xd := by
    refine ⟨sl, Hf, M, _, Xd, rl, w, fun d Hf1 M1 v H1 s1 r1 w1 => ?_, kx⟩
    obtain ⟨ds, e1, w1⟩ := w1
    refine ⟨ds, Hf1, M1, s1, ?_, w1⟩
    rcases e1 with rfl | rfl
    · exact .inl r1
    · exact .inr r1
  apply thn (ho.run pins s σ H _ I L)
  rintro v s1 ⟨x, H1, I1, rx, ds, Hf1, M1, st1, hx, w1⟩
  have main : ∀ (T id : String) (D : Dd), PlainAttrs T → Slot T "count" id → typeOf (.builtin id) = pure (.type "method_descriptor") → s1.TypeIs v T → (∀ a, v = .ref a → ∃ ob, s1.heap.get? a = some ob ∧ ob.dict = none) → Rep Hf1 x D →
      (∀ (ps : List PyData) (p : PyData) (u : Value) (s2 : Shared) (H2 : Hp) (bs : List Addr), Inv X pins σ H2 s2 → pyAll ds = some ps → Reads s2.heap u p bs → p.plain = true → X.A.units + 1 + min (PyData.depthAll ps) p.depth < cLine → Rep H2 x D → Q (.int (ps.countP fun y => PyData.eqv y p : Nat)) H2 →
        wpAny (model X.prog X.w) X.A (call (.builtin id) [v, u]) (EP X pins σ Q) X.xe s2) →
      ∃ T id, PlainAttrs T ∧ Slot T "count" id ∧ typeOf (.builtin id) = pure (.type "method_descriptor") ∧ s1.TypeIs v T ∧ (∀ a, v = .ref a → ∃ ob, s1.heap.get? a = some ob ∧ ob.dict = none) ∧
        wpAny (model X.prog X.w) X.A (callWith pos (.builtin id) [v] (backTo pos (starEach [e] X.env)) (backToKw pos (keywordEach [] X.env))) (EP X pins σ Q) X.xe s1 := by
    intro T id D pa slot hty h1 h2 hD hcall
    refine ⟨T, id, pa, slot, hty, h1, h2, ?_⟩
    have hA := (pa_cons he pa_nil hs).run pos pins s1 σ H1 (fun ys H2 => ∃ ps p y, ys = [y] ∧ pyAll ds = some ps ∧ Dp X.K H2 y p ∧ p.plain = true ∧ p.depth ≤ 64 ∧ Rep H2 x D ∧ Q (.int (ps.countP fun y => PyData.eqv y p : Nat)) H2) I1 (by
      refine ⟨sl, Hf1, M1, _, Xd, rl.step st1, w1, fun d Hf2 M2 y H2 s2 r2 w2 => ?_, fun c Hf2 M2 H2 s2 hq => kx c Hf2 M2 H2 (st1.trans s2) hq⟩
      obtain ⟨ps, p, e1, e2, e3, q⟩ := w2
      exact ⟨ps, p, y, rfl, e1, ((RepT.of s2.wd r2).rep s2.wd.le).dp e2, py_plain e2, e3, (hD.mono s2.up).mono s2.wd.le, k _ Hf2 M2 _ H2 (st1.trans s2) (.int _) q⟩)
    rw [hs] at hA ⊢
    apply Calls.callWith_builtin (by show (false || (backTo pos (starEach [] X.env)).any (·.1)) = false; rw [hplain] <;> rfl)
    apply Calls.evalArgs_plain
    apply thn hA
    rintro us s2 ⟨vs, H2, I2, r2, ps, p, y, rfl, e1, e2, e3, e4, e5, q⟩
    obtain ⟨u, rfl, ru⟩ := vals1 r2
    obtain ⟨bs, rb⟩ := Dp.reads I2 p y u e2 ru
    have hmin : min (PyData.depthAll ps) p.depth ≤ p.depth := Nat.min_le_right _ _
    exact hcall ps p u s2 H2 bs I2 e1 rb e3 (by omega) e5 q
  rcases hx with hx | hx
  · have hx0 := hx
    cases hx with
    | @lst a xs _ ha ra =>
      obtain rfl : v = Value.ref a := rx
      obtain ⟨h1, h2⟩ := tyV_is (T := "list") I1 (show RelV (.ref a) (.ref a) from rfl) (.inl ⟨rfl, _, .of (st1.wd.le _ _ ha)⟩)
      refine main "list" "list.count" _ PySem.F.plainAttrs_list PySem.F.slot_list_count PySem.F.type_list_count h1 h2 hx0 fun ps p u s2 H2 bs I2 e1 rb e3 e4 e5 q => ?_
      cases e5 with
      | lst ha2 ra2 =>
        obtain ⟨its, rv, pl, _⟩ := I2.list (.of ha2)
        obtain ⟨as, ras⟩ := Dp.readsAll I2 ps _ its (ra2.dp e1) rv
        exact SeqAt.count_list_data pl.isList (by simpa using ras) rb (pyAll_plain e1) e3 e4 ⟨.int _, H2, I2.tok _, ⟨_, rfl⟩, q⟩
  · have hx0 := hx
    cases hx with
    | @tup a ob xs _ ha hdict ra =>
      obtain rfl : v = Value.ref a := rx
      obtain ⟨zo, _, _, _, o2, z1, z2, _⟩ := I1.hok a _ (st1.wd.le _ _ ha)
      have eo : o2 = ob := Option.some.inj (z1.symm.trans zo)
      subst eo
      refine main "tuple" "tuple.count" _ PySem.F.plainAttrs_tuple PySem.F.slot_tuple_count PySem.F.type_tuple_count ⟨o2, z1, z2⟩ (fun b eb => by cases eb; exact ⟨o2, z1, hdict⟩) hx0 fun ps p u s2 H2 bs I2 e1 rb e3 e4 e5 q => ?_
      cases e5 with
      | tup ha2 _ ra2 =>
        obtain ⟨its, rv, pl, _⟩ := I2.tuple (.inl (.inr ⟨_, ha2⟩))
        obtain ⟨as, ras⟩ := Dp.readsAll I2 ps _ its (ra2.dp e1) rv
        exact SeqAt.count_tuple_data pl (by simpa using ras) rb (pyAll_plain e1) e3 e4 ⟨.int _, H2, I2.tok _, ⟨_, rfl⟩, q⟩
/-! ### f-strings -/
def gFmt : Dd → Option Dd
  | .str y => if y.length ≤ 1000000 then some (.str y) else none
  | .int i => if i.natAbs < 2 ^ 64 then some (.str (toString i)) else none
  | _ => none
def wFmt (we : DL.WE) : DL.WE := fun sl M Q E => we sl M (fun d M1 => ∃ z, gFmt d = some z ∧ Q z M1) E
theorem d_fmt (he : PE X e (low W we)) : PE X (.FormattedValue e (-1) none pos) (low W (wFmt we)) := by
  refine PE.imp (pe_fmt he) fun σ H Q ⟨sl, Hf, M, Qd, Xd, rl, w, k, kx⟩ => ⟨sl, Hf, M, _, Xd, rl, w, fun d Hf1 M1 v H1 s1 r1 w1 => ?_, kx⟩
  obtain ⟨z, hz, q⟩ := w1
  cases d with
  | str y =>
    simp only [gFmt] at hz
    split at hz
    · rename_i c
      cases hz
      cases r1
      exact .inl ⟨y, rfl, Nat.le_trans c (by decide), k _ Hf1 M1 _ H1 s1 (.str _) q⟩
    · cases hz
  | int i =>
    simp only [gFmt] at hz
    split at hz
    · rename_i c
      cases hz
      cases r1
      exact .inr ⟨i, rfl, log64 c, k _ Hf1 M1 _ H1 s1 (.str _) q⟩
    · cases hz
  | _ => cases hz
/-- the parts, one behind the other -/
def wJs : List DL.WE → Str → DS → MS → (Str → MS → Prop) → XD → Prop
  | [], acc, _, M, Q, _ => Q acc M
  | w :: ws, acc, sl, M, Q, E => w sl M (fun d M1 => ∃ y, d = .str y ∧ (acc ++ y).length ≤ 1000000 ∧ wJs ws (acc ++ y) sl M1 Q E) E
inductive PJD (X : Cx) (W : WX) : List Expr → List DL.WE → Prop where
  | nil : PJD X W [] []
  | cons {e : Expr} {w : DL.WE} {es : List Expr} {ws : List DL.WE} (h : PE X e (low W w)) (r : PJD X W es ws) : PJD X W (e :: es) (w :: ws)
theorem PJD.pj {es : List Expr} {ws : List DL.WE} (h : PJD X W es ws) : PJ X es (ws.map (low W)) := by
  induction h with
  | nil => exact .nil
  | cons h r ih => exact .cons h ih
theorem low_js {Xd : XD} {σ : L2.St} {Q : Str → Hp → Prop} {sl : DS} {Qd : Str → MS → Prop} : ∀ (ws : List DL.WE) (acc : Str) (Hf : Hp) (M : MS) (H : Hp), Rl sl Hf M σ H → wJs ws acc sl M Qd Xd → (∀ y Hf' M' H', Stp Hf M H Hf' M' H' → Qd y M' → Q y H') → (∀ c Hf' M' H', Stp Hf M H Hf' M' H' → Xd c M' → W c none σ H') →
    tJs (ws.map (low W)) acc σ H Q
  | [], acc, Hf, M, H, rl, w, k, kx => k acc Hf M H (Stp.refl rl.wd) w
  | w0 :: ws, acc, Hf, M, H, rl, w, k, kx => by
    refine ⟨sl, Hf, M, _, Xd, rl, w, fun d Hf1 M1 v H1 s1 r1 w1 => ?_, kx⟩
    obtain ⟨y, rfl, hz, w1⟩ := w1
    cases r1
    exact ⟨y, rfl, Nat.le_trans hz (by decide), low_js ws _ Hf1 M1 H1 (rl.step s1) w1 (fun y Hf' M' H' s => k y Hf' M' H' (s1.trans s)) (fun c Hf' M' H' s => kx c Hf' M' H' (s1.trans s))⟩
def wJoined (ws : List DL.WE) : DL.WE := fun sl M Q E => wJs ws Str.empty sl M (fun y M1 => Q (.str y) M1) E
theorem d_joined {v1 v2 : Expr} {rest : List Expr} {ws : List DL.WE} (h : PJD X W (v1 :: v2 :: rest) ws) : PE X (.JoinedStr (v1 :: v2 :: rest) pos) (low W (wJoined ws)) :=
  PE.imp (pe_joined h.pj) fun σ H Q ⟨sl, Hf, M, Qd, Xd, rl, w, k, kx⟩ => low_js ws Str.empty Hf M H rl w (fun y Hf' M' H' s q => k _ Hf' M' _ H' s (.str _) q) kx
theorem d_joined1 (he : PE X e (low W we)) : PE X (.JoinedStr [e] pos) (low W we) := pe_joined1 he
/-! ### raise -/
/-- an exception class of the program over ValueError, without an __init__ of its own -/
structure ExcK (K : PySem.W.Frag) (mg : Str → Option Value) (x : Str) (C : Addr) : Prop where
  gl : mg x = some (.ref C)
  ex : PySem.W.excIn K C PySem.HandSPX.veTail "ValueError.__new__" = true
  kp : PySem.W.keepIn K (.ref C) = true
  sb : PySem.W.subIn K (.ref C) (.type "BaseException") = some true
  ty : PySem.W.typeIn K (.ref C) = some (.type "type")
def wRaise (C : Addr) : WS := fun E sl M => E.ex (.ref C) sl M
theorem s_raise {x m : Str} {j : Nat} {p p3 : Pos} {C : Addr} (hc : X.calm = true) (tk : Takes X W) (F : ExcK X.K X.mg x C) (hg : Gl X x) (hdb : (x == ("__debug__" : Str)) = false := by decide) :
    PS X (.Raise (some (.Call (.Name x p) [.Constant (.str m) j p2] [] p3)) none pos) (lowS W (wRaise C)) :=
  PS.imp (ps_raise hc tk (pmk_own PySem.F.excBase_ValueError F.ex F.gl F.kp (raises_own F.sb F.ty) hg hdb)) fun D σ H ⟨sl, Hf, M, E, rl, w, k1, k2, k3, k4, k5⟩ => k5 _ sl Hf M σ H (Stp.refl rl.wd) rl w
end
end DL
/-! DL9: instances: fields, constants, properties, methods; making them; calling them; class methods. -/
namespace DL
open PySem PySem.Spec PyProof.Rows L2
/-! ### fields -/
def fldD : List Str → List Dd → Str → Option Dd
  | k :: ks, d :: ds, f => if f = k then some d else fldD ks ds f
  | _, _, _ => none
theorem fld_rep {H : Hp} {f : Str} {d : Dd} : ∀ {fs : List (Str × V)} {ds : List Dd}, RepAll H (fs.map (·.2)) ds → fldD (fs.map (·.1)) ds f = some d → ∃ v, fs.lookup f = some v ∧ Rep H v d
  | [], _, r, h => by cases r; cases h
  | (k, v) :: fs, d' :: ds, .cons h1 r, h => by
    have h : (if f = k then some d' else fldD (fs.map (·.1)) ds f) = some d := h
    by_cases e : f = k
    · rw [if_pos e] at h
      cases h
      exact ⟨v, by simp [List.lookup, e], h1⟩
    · rw [if_neg e] at h
      obtain ⟨u, h2, h3⟩ := fld_rep r h
      refine ⟨u, ?_, h3⟩
      have hb : (f == k) = false := beq_eq_false_iff_ne.mpr e
      simp only [List.lookup, hb]
      exact h2
theorem no_fld {f : Str} : ∀ {fs : List (Str × V)}, f ∉ fs.map (·.1) → fs.lookup f = none
  | [], _ => rfl
  | (k, v) :: fs, h => by
    have hb : (f == k) = false := beq_eq_false_iff_ne.mpr fun e => h (by simp [e])
    simp only [List.lookup, hb]
    exact no_fld fun z => h (List.mem_cons_of_mem _ z)
/-- the fields behind a store -/
def putKs (f : Str) : List Str → List Str
  | [] => [f]
  | k :: ks => if k = f then k :: ks else k :: putKs f ks
def putDs (f : Str) (d : Dd) : List Str → List Dd → List Dd
  | k :: ks, x :: ds => if k = f then d :: ds else x :: putDs f d ks ds
  | _, _ => [d]
theorem put_keys (f : Str) (v : V) : ∀ fs : List (Str × V), (putF f v fs).map (·.1) = putKs f (fs.map (·.1))
  | [] => rfl
  | (k, x) :: r => by
    show (if k = f then (k, v) :: r else (k, x) :: putF f v r).map (·.1) = if k = f then k :: r.map (·.1) else k :: putKs f (r.map (·.1))
    by_cases e : k = f
    · rw [if_pos e, if_pos e]; rfl
    · rw [if_neg e, if_neg e, ← put_keys f v r]; rfl
theorem put_rep {H : Hp} {f : Str} {v : V} {d : Dd} (h : Rep H v d) : ∀ {fs : List (Str × V)} {ds : List Dd}, RepAll H (fs.map (·.2)) ds → RepAll H ((putF f v fs).map (·.2)) (putDs f d (fs.map (·.1)) ds)
  | [], _, r => by cases r; exact .cons h .nil
  | (k, x) :: fs, y :: ds, .cons h1 r => by
    show RepAll H ((if k = f then (k, v) :: fs else (k, x) :: putF f v fs).map (·.2)) (if k = f then d :: ds else y :: putDs f d (fs.map (·.1)) ds)
    by_cases e : k = f
    · rw [if_pos e, if_pos e]; exact .cons h r
    · rw [if_neg e, if_neg e]; exact .cons h1 (put_rep h r)
section
variable {X : Cx} {W : WX} {e o fe : Expr} {es : List Expr} {pos apos p2 p : Pos} {we wo wf : DL.WE} {wr : WA} {f m x : Str} {cs : List Addr}
/-- e.f, a field of an instance of one of the classes cs -/
def wFld (cs : List Addr) (f : Str) (we : DL.WE) : DL.WE := fun sl M Q E => we sl M (fun d M1 => ∃ C ks ds z, der M1 d = .ins C ks ds ∧ C ∈ cs ∧ fldD ks ds f = some z ∧ Q z M1) E
theorem d_fld (hc : ∀ C ∈ cs, Cls X.K C ∧ NoAttr X.K C f) (he : PE X e (low W we)) (hb : attributeBase e f X.env (eval e X.env) = eval e X.env := by rfl) : PE X (.Attribute e f pos) (low W (wFld cs f we)) := by
  refine PE.imp (pe_fld he hb) fun σ H Q ⟨sl, Hf, M, Qd, Xd, rl, w, k, kx⟩ => ⟨sl, Hf, M, _, Xd, rl, w, fun d Hf1 M1 v H1 s1 r1 w1 => ?_, kx⟩
  obtain ⟨C, ks, ds, z, hd, hC, hz, q⟩ := w1
  have rt := RepT.of s1.wd r1
  rw [hd] at rt
  obtain ⟨a, dx, fs, rfl, ha, rfl, ra⟩ := rt.ins s1.wd.le
  obtain ⟨u, h1, h2⟩ := fld_rep ra hz
  exact ⟨a, C, dx, fs, u, rfl, ha, (hc C hC).1, (hc C hC).2, h1, k z Hf1 M1 u H1 s1 h2 q⟩
/-- e.f, a constant of the class: tbl tells it -/
def wCon (tbl : List (Addr × Dd)) (f : Str) (we : DL.WE) : DL.WE := fun sl M Q E => we sl M (fun d M1 => ∃ C ks ds z, der M1 d = .ins C ks ds ∧ (C, z) ∈ tbl ∧ f ∉ ks ∧ Q z M1) E
theorem d_con {tbl : List (Addr × Dd)} (hc : ∀ C z, (C, z) ∈ tbl → Cls X.K C ∧ ∃ v u, Con X.K C f v u ∧ ∀ H, Rep H v z) (he : PE X e (low W we)) (hb : attributeBase e f X.env (eval e X.env) = eval e X.env := by rfl) : PE X (.Attribute e f pos) (low W (wCon tbl f we)) := by
  refine PE.imp (pe_con he hb) fun σ H Q ⟨sl, Hf, M, Qd, Xd, rl, w, k, kx⟩ => ⟨sl, Hf, M, _, Xd, rl, w, fun d Hf1 M1 v H1 s1 r1 w1 => ?_, kx⟩
  obtain ⟨C, ks, ds, z, hd, hC, hf, q⟩ := w1
  have rt := RepT.of s1.wd r1
  rw [hd] at rt
  obtain ⟨a, dx, fs, rfl, ha, rfl, ra⟩ := rt.ins s1.wd.le
  obtain ⟨h1, v, u, h2, h3⟩ := hc C z hC
  exact ⟨a, C, dx, fs, v, u, rfl, ha, h1, h2, no_fld hf, k z Hf1 M1 v H1 s1 (h3 _) q⟩
/-- o.f = e, o a mutable instance -/
def wPut (cs : List Addr) (f : Str) (wo we : DL.WE) : WS := fun E sl M => we sl M (fun x M1 => wo sl M1 (fun d M2 => ∃ p C ks ds, d = .raw (.ref p) ∧ M2 p = some (.ins C ks ds) ∧ C ∈ cs ∧ ks.length < 900 ∧ E.nx sl (updM M2 p (.ins C (putKs f ks) (putDs f x ks ds)))) (fun c M => E.ex c sl M)) (fun c M => E.ex c sl M)
theorem s_put {pos' : Pos} (hc : ∀ C ∈ cs, Cls X.K C ∧ NoAttr X.K C f) (ho : PE X o (low W wo)) (he : PE X e (low W we)) (hs : swapsWith e (some (.Attribute o f pos')) pos.line X.env = pure false := by rfl) : PS X (.Assign [.Attribute o f pos'] e pos) (lowS W (wPut cs f wo we)) := by
  refine PS.imp (ps_fld ho he hs) fun D σ H ⟨sl, Hf, M, E, rl, w, k1, k2, k3, k4, k5⟩ => low_in rl w k5 fun x Hf1 M1 y H1 s1 r1 q1 => ?_
  refine ⟨sl, Hf1, M1, _, _, rl.step s1, q1, fun d Hf2 M2 v H2 s2 r2 q2 => ?_, fun c Hf' M' H' s q => k5 c sl Hf' M' σ H' (s1.trans s) (rl.step (s1.trans s)) q⟩
  obtain ⟨p, C, ks, ds, rfl, hp, hC, hl, q⟩ := q2
  cases r2
  obtain ⟨dx, fs, ha, rfl, ra⟩ := s2.wd.ok p _ hp
  refine ⟨p, C, dx, fs, rfl, ha, (hc C hC).1, (hc C hC).2, by rw [List.length_map] at hl; omega, ?_⟩
  have sw := Stp.write (u := .ins C dx (putF f y fs)) (mo := .ins C (putKs f (fs.map (·.1))) (putDs f x (fs.map (·.1)) ds)) s2.wd (.inl ⟨_, hp⟩) ⟨dx, _, upd_same, put_keys f y fs, put_rep (r1.mono s2.up) ra⟩
  exact k1 sl Hf2 _ σ _ ((s1.trans s2).trans sw) (rl.step ((s1.trans s2).trans sw)) q
/-! ### callables by data -/
/-- a promise by data, of any number of arguments -/
def liftV (sp : DSp) : Sp := fun vs H Q E => ∃ ds Hf M Qd Xd, RepAll Hf vs ds ∧ Wd Hf M H ∧ sp ds M Qd Xd ∧
  (∀ d Hf' M' v H', Stp Hf M H Hf' M' H' → Rep Hf' v d → Qd d M' → Q v H') ∧ (∀ c Hf' M' H', Stp Hf M H Hf' M' H' → Xd c M' → E c none H')
theorem lift_V {n : Nat} {sp : DSp} {vs : List V} {H : Hp} {Q : VK} {E : XK} (h : liftV (fun ds M Q E => ds.length = n ∧ sp ds M Q E) vs H Q E) : lift n sp vs H Q E := by
  obtain ⟨ds, Hf, M, Qd, Xd, r, wd, ⟨hl, q⟩, k1, k2⟩ := h
  exact ⟨ds, Hf, M, Qd, Xd, hl, r, wd, q, k1, k2⟩
/-- the callable at g keeps the word sp -/
abbrev FD (bm : Bool) (X : Cx) (k : Nat) (g : Addr) (sp : DSp) : Prop := FR bm X.prog X.w X.K X.mg X.base k g (liftV sp)
theorem FR.imp {P : Program} {w : World} {K : PySem.W.Frag} {mg : Str → Option Value} {base : Heap} {k : Nat} {f : Addr} {sp sp' : Sp} (F : FR bm P w K mg base k f sp) (h : ∀ vs H Q E, sp' vs H Q E → sp vs H Q E) : FR bm P w K mg base k f sp' :=
  fun A outer s H us vs Q E bA hr e0 r q => F A outer s H us vs Q E bA hr e0 r (h _ _ _ _ q)
/-- a property -/
def wProp (cs : List Addr) (sp : DSp) (we : DL.WE) : DL.WE := fun sl M Q E => we sl M (fun d M1 => ∃ C ks ds, der M1 d = .ins C ks ds ∧ C ∈ cs ∧ sp [d] M1 Q X0) E
theorem d_prop {k : Nat} {sp : DSp} {pr g : Addr} (bA : Bare bm X.A) (hr : Room (k + 1) X.A) (hc : ∀ C ∈ cs, Cls X.K C ∧ PropOf X.K C f pr g) (F : FD bm X k g sp) (he : PE X e (low W we)) (hab : attributeBase e f X.env (eval e X.env) = eval e X.env := by rfl) :
    PE X (.Attribute e f pos) (low W (wProp cs sp we)) := by
  constructor
  rintro pins s σ H Q I ⟨sl, Hf, M, Qd, Xd, rl, w, k, kx⟩
  have L : low W we σ H fun v H1 => ∃ a C dx fs, v = .ref a ∧ H1 a = some (.ins C dx fs) ∧ C ∈ cs ∧ liftV sp [.ref a] H1 Q (fun _ _ _ => False) := by
    refine ⟨sl, Hf, M, _, Xd, rl, w, fun d Hf1 M1 v H1 s1 r1 w1 => ?_, kx⟩
    obtain ⟨C, ks, ds, hd, hC, q⟩ := w1
    have rt := RepT.of s1.wd r1
    rw [hd] at rt
    obtain ⟨a, dx, fs, rfl, ha, _, _⟩ := rt.ins s1.wd.le
    exact ⟨a, C, dx, fs, rfl, ha, hC, [d], Hf1, M1, Qd, X0, .cons r1 .nil, s1.wd, q, fun d Hf2 M2 v H2 s2 => k d Hf2 M2 v H2 (s1.trans s2), fun _ _ _ _ _ z => z⟩
  apply attr_of hab
  apply thn (he.run pins s σ H _ I L)
  rintro u s1 ⟨v, H1, I1, rv, a, C, dx, fs, rfl, ha, hC, q⟩
  obtain rfl : u = Value.ref a := rv
  obtain ⟨c, hp⟩ := hc C hC
  obtain ⟨mA, O, _, _, _, _⟩ := ins_get I1.hok ha
  obtain ⟨od, J, _⟩ := O.look
  obtain ⟨rest, hrec⟩ := hp.rec_
  have hcl : (PySem.W.clsIn X.K C).isSome = true := by
    obtain ⟨cd, hcd, _⟩ := PySem.W.any_some c.hd
    rw [hcd]
    rfl
  have I2 := I1.tok (s1.toks + 1)
  apply PySem.W.get_bind I1.kIn J (PySem.W.plainGet_of (c.get f)).1 (PySem.W.findObj_data hcl hp.at_ hp.get hp.tak) (PySem.W.plainGet_of (c.get f)).2
  apply wpAny_call
  apply PySem.W.prop_get (s := { s1 with toks := s1.toks + 1 }) I1.kIn hrec
  have nx : PassesAt (L2.CX X.prog X.w) X.nox σ (fun _ _ _ => False) := fun pins H s e s' J h => by
    obtain ⟨_, _, _, _, _, _, _, _, _, _, _, _, z⟩ := h
    exact z
  apply codeAny_mono (F X.A.in1 X.stack _ H1 [.ref a] [.ref a] Q (fun _ _ _ => False) bA hr.in1 I2.env0.in1 (.cons rfl .nil) q)
  intro r s' hq
  have z := back (X := X.nox) (I2.wish _) nx hq
  cases r with
  | error er => exact False.elim z
  | ok fl =>
    cases fl with
    | ret u =>
      obtain ⟨v, H', I3, rv, q3⟩ := z
      show wpAny _ _ (handedOut u) _ _ _
      rw [PySem.W.handedOut_of (handed_of rv)]
      exact wpAny_pure ⟨v, H', I3.unwish, rv, q3⟩
    | _ => exact False.elim z
/-- o.m(..) -/
def wMeth (cs : List Addr) (m : Str) (sp : DSp) (wo : DL.WE) (wr : WA) : DL.WE := fun sl M Q E => wo sl M (fun d M1 => ∃ C ks ds, der M1 d = .ins C ks ds ∧ C ∈ cs ∧ m ∉ ks ∧ wr sl M1 (fun xs M2 => sp (d :: xs) M2 Q E) E) E
theorem low_meth {sp : DSp} {σ : L2.St} {H : Hp} {Q : VK} (h : low W (wMeth cs m sp wo wr) σ H Q) : low W wo σ H fun v H1 => ∃ a C dx fs, v = .ref a ∧ H1 a = some (.ins C dx fs) ∧ C ∈ cs ∧ fs.lookup m = none ∧
    lowA W wr σ H1 fun vs H2 => liftV sp (.ref a :: vs) H2 Q (fun c d H => W c d σ H) := by
  obtain ⟨sl, Hf, M, Qd, Xd, rl, w, k, kx⟩ := h
  refine ⟨sl, Hf, M, _, Xd, rl, w, fun d Hf1 M1 v H1 s1 r1 w1 => ?_, kx⟩
  obtain ⟨C, ks, ds, hd, hC, hm, w1⟩ := w1
  have rt := RepT.of s1.wd r1
  rw [hd] at rt
  obtain ⟨a, dx, fs, rfl, ha, rfl, _⟩ := rt.ins s1.wd.le
  exact ⟨a, C, dx, fs, rfl, ha, hC, no_fld hm, sl, Hf1, M1, _, Xd, rl.step s1, w1, fun xs Hf2 M2 vs H2 s2 r2 q => ⟨d :: xs, Hf2, M2, Qd, Xd, .cons (r1.mono s2.up) r2, s2.wd, q, fun d Hf3 M3 v H3 s3 => k d Hf3 M3 v H3 ((s1.trans s2).trans s3), fun c Hf3 M3 H3 s3 => kx c Hf3 M3 H3 ((s1.trans s2).trans s3)⟩,
    fun c Hf' M' H' s q => kx c Hf' M' H' (s1.trans s) q⟩
theorem d_meth {k : Nat} {sp : DSp} {g : Addr} {pl : Sem Bool} (bA : Bare bm X.A) (hr : Room k X.A) (tk : Takes X W) (hc : ∀ C ∈ cs, Cls X.K C ∧ Meth X.K C m g) (F : FD bm X k g sp) (ho : PE X o (low W wo)) (ha : PA X (e :: es) (lowA W wr))
    (hst : starEach (e :: es) X.env = (false, eval e X.env) :: starEach es X.env := by rfl) (hpl : (backTo pos (starEach es X.env)).any (·.1) = false := by rfl)
    (ht : eval (.Call (.Attribute o m apos) (e :: es) [] pos) X.env = (do
      let ov ← eval o X.env
      standAt apos.atName
      let (f, first) ← holding [ov] (getMethod ov m pl)
      callWith pos f first (backTo pos (starEach (e :: es) X.env)) (backToKw pos (keywordEach [] X.env))) := by rfl) :
    PE X (.Call (.Attribute o m apos) (e :: es) [] pos) (low W (wMeth cs m sp wo wr)) := by
  constructor
  intro pins s σ H Q I h
  apply PySem.W.methodCall_KW (pl := pl) _ ht
  apply thn (ho.run pins s σ H _ I (low_meth h))
  rintro u s1 ⟨v, H1, I1, rv, a, C, dx, fs, rfl, hH, hC, hl, q⟩
  obtain rfl : u = Value.ref a := rv
  obtain ⟨c, hm⟩ := hc C hC
  apply getmeth_ok I1 hH c hm hl
  apply PySem.W.callWith_K (first := [.ref a]) (h₀ := X.base) I.ok.mod.kin hm.kp _ hst hpl
  apply thn (ha.run pos pins s1 σ H1 _ I1 q)
  rintro us s2 ⟨vs, H2, I2, r, q2⟩
  exact ⟨I2.kIn, run_G (us := .ref a :: us) (vs := .ref a :: vs) F bA hr (passAt tk σ) I2 (.cons rfl r) q2⟩
theorem d_meth0 {k : Nat} {sp : DSp} {g : Addr} {pl : Sem Bool} (bA : Bare bm X.A) (hr : Room k X.A) (tk : Takes X W) (hc : ∀ C ∈ cs, Cls X.K C ∧ Meth X.K C m g) (F : FD bm X k g sp) (ho : PE X o (low W wo))
    (ht : eval (.Call (.Attribute o m apos) [] [] pos) X.env = (do
      let ov ← eval o X.env
      standAt apos.atName
      let (f, first) ← holding [ov] (getMethod ov m pl)
      callWith pos f first (backTo pos (starEach [] X.env)) (backToKw pos (keywordEach [] X.env))) := by rfl) :
    PE X (.Call (.Attribute o m apos) [] [] pos) (low W (wMeth cs m sp wo wNil)) := by
  constructor
  intro pins s σ H Q I h
  apply PySem.W.methodCall_KW (pl := pl) _ ht
  apply thn (ho.run pins s σ H _ I (low_meth h))
  rintro u s1 ⟨v, H1, I1, rv, a, C, dx, fs, rfl, hH, hC, hl, q⟩
  obtain rfl : u = Value.ref a := rv
  obtain ⟨c, hm⟩ := hc C hC
  apply getmeth_ok I1 hH c hm hl
  apply PySem.W.callWith_K0 (first := [.ref a]) I1.kIn hm.kp
  obtain ⟨sl, Hf, M, Qd, Xd, rl, w, k, kx⟩ := q
  exact run_G (us := [.ref a]) (vs := [.ref a]) F bA hr (passAt tk σ) I1 (.cons rfl .nil) (k [] Hf M [] H1 (Stp.refl rl.wd) .nil w)
/-- o(..), o an instance -/
def wCallO (cs : List Addr) (sp : DSp) (wo : DL.WE) (wr : WA) : DL.WE := fun sl M Q E => wo sl M (fun d M1 => (∃ C ks ds, der M1 d = .ins C ks ds) ∧ wr sl M1 (fun xs M2 => ∃ C ks ds, der M2 d = .ins C ks ds ∧ C ∈ cs ∧ sp (d :: xs) M2 Q E) E) E
theorem d_callO {k : Nat} {sp : DSp} {g : Addr} (bA : Bare bm X.A) (hr : Room k X.A) (tk : Takes X W) (hc : ∀ C ∈ cs, StX.CallO X.K C g) (F : FD bm X k g sp) (hf : PE X fe (low W wf)) (ha : PA X (e :: es) (lowA W wr))
    (ht : eval (.Call fe (e :: es) [] pos) X.env = (do callWith pos (← eval fe X.env) [] (backTo pos (starEach (e :: es) X.env)) (backToKw pos (keywordEach [] X.env))) := by rfl)
    (he : starEach (e :: es) X.env = (false, eval e X.env) :: starEach es X.env := by rfl) (hpl : (backTo pos (starEach es X.env)).any (·.1) = false := by rfl) : PE X (.Call fe (e :: es) [] pos) (low W (wCallO cs sp wf wr)) := by
  constructor
  rintro pins s σ H Q I ⟨sl, Hf, M, Qd, Xd, rl, w, k, kx⟩
  have L : low W wf σ H fun v H1 => ∃ a, v = .ref a ∧ lowA W wr σ H1 fun vs H2 => ∃ C dx fs, H2 a = some (.ins C dx fs) ∧ C ∈ cs ∧ liftV sp (.ref a :: vs) H2 Q (fun c d H => W c d σ H) := by
    refine ⟨sl, Hf, M, _, Xd, rl, w, fun d Hf1 M1 v H1 s1 r1 w1 => ?_, kx⟩
    obtain ⟨⟨C0, ks0, ds0, hd0⟩, w1⟩ := w1
    have rt := RepT.of s1.wd r1
    rw [hd0] at rt
    obtain ⟨a, dx, fs, rfl, _, _, _⟩ := rt.ins s1.wd.le
    refine ⟨a, rfl, sl, Hf1, M1, _, Xd, rl.step s1, w1, fun xs Hf2 M2 vs H2 s2 r2 w2 => ?_, fun c Hf' M' H' s q => kx c Hf' M' H' (s1.trans s) q⟩
    obtain ⟨C, ks, ds, hd, hC, q⟩ := w2
    have rt2 := RepT.of s2.wd (r1.mono s2.up)
    rw [hd] at rt2
    obtain ⟨a2, dx2, fs2, e2, hH2, _, _⟩ := rt2.ins s2.wd.le
    cases e2
    exact ⟨C, dx2, fs2, hH2, hC, d :: xs, Hf2, M2, Qd, Xd, .cons (r1.mono s2.up) r2, s2.wd, q, fun d Hf3 M3 v H3 s3 => k d Hf3 M3 v H3 ((s1.trans s2).trans s3), fun c Hf3 M3 H3 s3 => kx c Hf3 M3 H3 ((s1.trans s2).trans s3)⟩
  apply Call_ _ ht
  apply thn (hf.run pins s σ H _ I L)
  rintro u s1 ⟨v, H1, I1, rv, a, rfl, q⟩
  obtain rfl : u = Value.ref a := rv
  apply StX.callO_with _ he hpl
  apply thn (ha.run pos pins s1 σ H1 _ I1 q)
  rintro us s2 ⟨vs, H2, I2, r, C, dx, fs, hH, hC, q2⟩
  obtain ⟨ox, od, J, hd⟩ := StX.insC_at I2 (.inr ⟨dx, fs, hH⟩)
  have c := hc C hC
  refine ⟨⟨C, ox, od, J, hd⟩, wpAny_call (PySem.W.kco_code I2.kIn J hd c.at_ c.fn c.fi ?_)⟩
  apply codeAny_mono (run_code (us := .ref a :: us) (vs := .ref a :: vs) F bA hr (passAt tk σ) I2 (.cons rfl r) q2)
  intro r s' z
  cases r with
  | error e => exact z
  | ok fl => cases fl <;> exact z
/-- C.m(..), m a class method of the class C -/
def wCMeth (C : Addr) (sp : DSp) (wo : DL.WE) (wr : WA) : DL.WE := fun sl M Q E => wo sl M (fun d M1 => d = .raw (.ref C) ∧ wr sl M1 (fun xs M2 => sp (.raw (.ref C) :: xs) M2 Q E) E) E
theorem d_cmeth {k : Nat} {sp : DSp} {C pr g : Addr} {mc : Value} {pl : Sem Bool} (bA : Bare bm X.A) (hr : Room k X.A) (tk : Takes X W) (rd : ClX.CRead X.K C mc) (c : ClX.CMet X.K C mc m pr g) (F : FD bm X k g sp) (ho : PE X o (low W wo)) (ha : PA X (e :: es) (lowA W wr))
    (hst : starEach (e :: es) X.env = (false, eval e X.env) :: starEach es X.env := by rfl) (hpl : (backTo pos (starEach es X.env)).any (·.1) = false := by rfl)
    (ht : eval (.Call (.Attribute o m apos) (e :: es) [] pos) X.env = (do
      let ov ← eval o X.env
      standAt apos.atName
      let (f, first) ← holding [ov] (getMethod ov m pl)
      callWith pos f first (backTo pos (starEach (e :: es) X.env)) (backToKw pos (keywordEach [] X.env))) := by rfl) :
    PE X (.Call (.Attribute o m apos) (e :: es) [] pos) (low W (wCMeth C sp wo wr)) := by
  constructor
  rintro pins s σ H Q I ⟨sl, Hf, M, Qd, Xd, rl, w, k, kx⟩
  have L : low W wo σ H fun v H1 => v = .ref C ∧ lowA W wr σ H1 fun vs H2 => liftV sp (.ref C :: vs) H2 Q (fun c d H => W c d σ H) := by
    refine ⟨sl, Hf, M, _, Xd, rl, w, fun d Hf1 M1 v H1 s1 r1 w1 => ?_, kx⟩
    obtain ⟨rfl, w1⟩ := w1
    cases r1
    exact ⟨rfl, sl, Hf1, M1, _, Xd, rl.step s1, w1, fun xs Hf2 M2 vs H2 s2 r2 q => ⟨_, Hf2, M2, Qd, Xd, .cons (.raw _) r2, s2.wd, q, fun d Hf3 M3 v H3 s3 => k d Hf3 M3 v H3 ((s1.trans s2).trans s3), fun c Hf3 M3 H3 s3 => kx c Hf3 M3 H3 ((s1.trans s2).trans s3)⟩,
      fun c Hf' M' H' s q => kx c Hf' M' H' (s1.trans s) q⟩
  apply PySem.W.methodCall_KW (pl := pl) _ ht
  apply thn (ho.run pins s σ H _ I L)
  rintro u s1 ⟨v, H1, I1, rv, rfl, q⟩
  obtain rfl : u = Value.ref C := rv
  apply ClX.getmethcm_ok I1 rd c
  intro s2 I2
  apply ClX.callwith_cm I2 (ClX.base_none I1 (Nat.le_refl _)) c.fi _ hst hpl
  apply thn (ha.run pos _ s2 σ H1 _ I2 q)
  rintro us s3 ⟨vs, H2, I3, r, q2⟩
  refine ⟨⟨ClX.pin_at I3, I3.kIn⟩, ?_⟩
  have z : wpAny (model X.prog X.w) X.A (call (.ref s1.heap.objs.size) us) (EP X ((s1.heap.objs.size, PySem.W.methodObj (.ref g) (.ref C)) :: pins) σ Q) X.xe s3 := by
    apply wpAny_call
    apply PySem.W.method_call (ClX.pin_at I3)
    apply codeAny_mono (run_code (us := .ref C :: us) (vs := .ref C :: vs) F bA hr (passAt tk σ) I3 (.cons rfl r) q2)
    intro r s' z
    cases r with
    | error e => exact z
    | ok fl => cases fl <;> exact z
  exact thn z fun _ _ y => ClX.unpinE y
/-! ### making an instance -/
theorem Stp.drop {Hf H : Hp} {M : MS} {p : Addr} (w : Wd Hf M H) : ∃ Hf', Stp Hf M H Hf' (delM M p) H := by
  cases h : M p with
  | some mo => obtain ⟨Hf', s, _⟩ := Stp.freeze w h; exact ⟨Hf', s⟩
  | none =>
    have e : delM M p = M := by
      funext b
      by_cases q : b = p
      · rw [q, delM_same, h]
      · rw [delM_ne q]
    rw [e]
    exact ⟨Hf, Stp.refl w⟩
/-- what is asked of C(ds): the new instance is data behind its __init__ | goes on changing -/
def MkD (C : Addr) (sp : DSp) (ds : List Dd) (M : MS) (Q : QD) (E : XD) : Prop := ∀ p, M p = none → sp (.raw (.ref p) :: ds) (updM M p (.ins C [] [])) (fun r M' => r = .non ∧ ∃ mo, M' p = some mo ∧ Q mo.dd (delM M' p)) (fun c M' => E c (delM M' p))
def MkM (C : Addr) (sp : DSp) (ds : List Dd) (M : MS) (Q : QD) (E : XD) : Prop := ∀ p, M p = none → sp (.raw (.ref p) :: ds) (updM M p (.ins C [] [])) (fun r M' => r = .non ∧ Q (.raw (.ref p)) M') (fun c M' => E c (delM M' p))
theorem new_ins {Hf H : Hp} {M : MS} {x dx C : Addr} (w : Wd Hf M H) (hx : H x = none) (hdx : H dx = none) (ne : dx ≠ x) : Stp Hf M H Hf (updM M x (.ins C [] [])) (upd (upd H dx (.own x)) x (.ins C dx [])) := by
  have s1 : Stp Hf M H Hf M (upd H dx (.own x)) := (Stp.refl w).other hdx (w.free hdx).2 (w.free hdx).1
  exact s1.trans (Stp.write s1.wd (.inr (by rw [upd_ne (Ne.symm ne)]; exact hx)) ⟨dx, [], upd_same, rfl, .nil⟩)
/-- C(..) with its values -/
theorem run_mk {k : Nat} {C g : Addr} {sp : DSp} {pins : List (Addr × Obj)} {σ : L2.St} {H Hf : Hp} {s : Shared} {Q : VK} {E : XK} {us : List Value} {vs : List V} {ds : List Dd} {M : MS} {Qd : QD} {Xd : XD} (mk : Mk X.K C g) (F : FD bm X k g sp) (bA : Bare bm X.A) (hr : Room (k + 1) X.A)
    (hx : PassesAt (L2.CX X.prog X.w) X σ E) (I : Inv X pins σ H s) (r : Vals vs us) (rd : RepAll Hf vs ds) (wd : Wd Hf M H) (h : MkD C sp ds M Qd Xd ∨ MkM C sp ds M Qd Xd)
    (k1 : ∀ d Hf' M' v H', Stp Hf M H Hf' M' H' → Rep Hf' v d → Qd d M' → Q v H') (k2 : ∀ c Hf' M' H', Stp Hf M H Hf' M' H' → Xd c M' → E c none H') : wpAny (model X.prog X.w) X.A (call (.ref C) us) (EP X pins σ Q) X.xe s := by
  have hx1 : H (s.heap.objs.size + 1) = none := I.hok.fresh (Nat.le_succ _)
  have hd1 : H s.heap.objs.size = none := I.hok.fresh (Nat.le_refl _)
  have I2 := Inv.made (C := C) I
  have st := new_ins (C := C) wd hx1 hd1 (Nat.ne_of_lt (Nat.lt_succ_self _))
  have fr : M (s.heap.objs.size + 1) = none := (wd.free hx1).1
  have rr : RepAll Hf (.ref (s.heap.objs.size + 1) :: vs) (.raw (.ref (s.heap.objs.size + 1)) :: ds) := .cons (.raw _) rd
  have goal : liftV sp (.ref (s.heap.objs.size + 1) :: vs) (upd (upd H s.heap.objs.size (.own (s.heap.objs.size + 1))) (s.heap.objs.size + 1) (.ins C s.heap.objs.size [])) (fun v H2 => v = .non ∧ Q (.ref (s.heap.objs.size + 1)) H2) E := by
    have ex : ∀ c Hf' M' H', Stp Hf (updM M (s.heap.objs.size + 1) (.ins C [] [])) (upd (upd H s.heap.objs.size (.own (s.heap.objs.size + 1))) (s.heap.objs.size + 1) (.ins C s.heap.objs.size [])) Hf' M' H' → Xd c (delM M' (s.heap.objs.size + 1)) → E c none H' := by
      intro c Hf' M' H' s' q
      obtain ⟨Hf2, s2⟩ := Stp.drop (p := s.heap.objs.size + 1) s'.wd
      exact k2 c Hf2 _ H' ((st.trans s').trans s2) q
    rcases h with h | h
    · refine ⟨_, Hf, _, _, _, rr, st.wd, h _ fr, fun d Hf' M' v H' s' rv q => ?_, ex⟩
      obtain ⟨rfl, mo, hmo, q⟩ := q
      cases rv
      obtain ⟨Hf2, s2, rz⟩ := Stp.freeze s'.wd hmo
      exact ⟨rfl, k1 _ Hf2 _ _ H' ((st.trans s').trans s2) rz q⟩
    · refine ⟨_, Hf, _, _, _, rr, st.wd, h _ fr, fun d Hf' M' v H' s' rv q => ?_, ex⟩
      obtain ⟨rfl, q⟩ := q
      cases rv
      exact ⟨rfl, k1 _ Hf' _ _ H' (st.trans s') (.raw _) q⟩
  have bA2 : Bare bm (X.A.under (.builtin "type.__call__" ⟨.ref C :: us, []⟩)) := by
    intro hb
    have e : (X.A.under (.builtin "type.__call__" ⟨.ref C :: us, []⟩)).guards = pushGuards (Code.builtin "type.__call__" ⟨.ref C :: us, []⟩).guards X.A.guards := rfl
    rw [e, show X.A.guards = some [] from bA hb]
    first | rfl | simp [pushGuards, Code.guards, Code.isGuard, guardIds]
  apply wpAny_call
  apply make_map (f := g) I.kIn mk.makes mk.init (beq_iff_eq.mp mk.fn)
  apply codeAny_mono (F _ X.stack _ _ (Value.ref (s.heap.objs.size + 1) :: us) (.ref (s.heap.objs.size + 1) :: vs) _ E bA2 (hr.make C us []) (I2.env0.make C us []) (.cons rfl r) goal)
  intro r s' hq
  have z := back I2 hx hq
  cases r with
  | error e => exact z
  | ok fl =>
    cases fl with
    | ret u =>
      obtain ⟨v, H', I3, rv, rfl, q3⟩ := z
      exact ⟨rv, ⟨V.ref (s.heap.objs.size + 1), H', I3, rfl, q3⟩⟩
    | _ => exact z
/-- c(*xs), c a name that holds one of the classes; xs a list or a tuple -/
def wMkS (mkw : Addr → List Dd → MS → QD → XD → Prop) (cs : List Addr) (wf we : DL.WE) : DL.WE := fun sl M Q E => wf sl M (fun c M1 => ∃ C, c = .raw (.ref C) ∧ C ∈ cs ∧ we sl M1 (fun d M2 => ∃ ds, (der M2 d = .lst ds ∨ der M2 d = .tup ds) ∧ mkw C ds M2 Q E) E) E
theorem d_mkS {k : Nat} {sp : DSp} {g : Addr} {pn psr : Pos} {mkw : Addr → List Dd → MS → QD → XD → Prop} (bA : Bare bm X.A) (hr : Room (k + 1) X.A) (tk : Takes X W) (hc : ∀ C ∈ cs, Mk X.K C g) (F : FD bm X k g sp) (hw : ∀ C ds M Q E, mkw C ds M Q E → MkD C sp ds M Q E ∨ MkM C sp ds M Q E)
    (hf : PE X (.Name x pn) (low W wf)) (he : PE X e (low W we))
    (hst : starEach [.Starred e psr] X.env = [(true, eval e X.env)] := by rfl) : PE X (.Call (.Name x pn) [.Starred e psr] [] pos) (low W (wMkS mkw cs wf we)) := by
  constructor
  rintro pins s σ H Q I ⟨sl, Hf, M, Qd, Xd, rl, w, k, kx⟩
  have L : low W wf σ H fun v H1 => ∃ C ∈ cs, v = .ref C ∧ low W we σ H1 fun y H2 => ∃ a xs ds Hf2 M2, y = .ref a ∧ (SqT X.K H2 a xs ∨ SqL X.K H2 a xs) ∧ RepAll Hf2 xs ds ∧ Stp Hf M H Hf2 M2 H2 ∧ mkw C ds M2 Qd Xd := by
    refine ⟨sl, Hf, M, _, Xd, rl, w, fun d Hf1 M1 v H1 s1 r1 w1 => ?_, kx⟩
    obtain ⟨C, rfl, hC, w1⟩ := w1
    cases r1
    refine ⟨C, hC, rfl, sl, Hf1, M1, _, Xd, rl.step s1, w1, fun d Hf2 M2 y H2 s2 r2 w2 => ?_, fun c Hf' M' H' s q => kx c Hf' M' H' (s1.trans s) q⟩
    obtain ⟨ds, hd, q⟩ := w2
    have rt := RepT.of s2.wd r2
    rcases hd with hd | hd
    · rw [hd] at rt
      obtain ⟨a, xs, rfl, ha, ra⟩ := rt.lst s2.wd.le
      exact ⟨a, xs, ds, Hf2, M2, rfl, .inr (.of ha), ra, s1.trans s2, q⟩
    · rw [hd] at rt
      obtain ⟨a, xs, rfl, ha, ra⟩ := rt.tup
      exact ⟨a, xs, ds, Hf2, M2, rfl, .inl (.inl (rd_mono s2.wd.le ha)), ra, s1.trans s2, q⟩
  apply wpAny_Call_Name_kw
  apply thn (hf.run pins s σ H _ I L)
  rintro u s1 ⟨v, H1, I1, rv, C, hC, rfl, q⟩
  obtain rfl : u = Value.ref C := rv
  apply PySem.W.callWith_S (h₀ := X.base) I.ok.mod.kin (hc C hC).kp _ hst
  apply thn (he.run pins s1 σ H1 _ I1 q)
  rintro v s2 ⟨y, H2, I2, ry, a, xs, ds, Hf2, M2, rfl, hxs, ra, st, q2⟩
  obtain rfl : v = Value.ref a := ry
  apply StX.star_any I2 hxs
  intro us s3 I3 rv
  exact ⟨I3.kIn, run_mk (hc C hC) F bA hr (passAt tk σ) I3 rv ra st.wd (hw _ _ _ _ _ q2) (fun d Hf' M' v H' s' => k d Hf' M' v H' (st.trans s')) (fun c Hf' M' H' s' => kx c Hf' M' H' (st.trans s'))⟩
end
end DL
/-! DLa: defs of the text. -/
namespace DL
open PySem PySem.Spec PyProof.Rows L2
/-- the def st of the top stands at the module's name -/
structure DefOf (K : PySem.W.Frag) (mg : Str → Option Value) (name : Str) (st : Stmt) : Prop where
  fd : ∃ fd, FunD K name name (defArgs st) (defBody st) (defScope st) [] [] (He.ga K name) fd
  gl : mg name = some (.ref (He.ga K name))
section
variable {P : Program} {w : World} {K : PySem.W.Frag} {mg : Str → Option Value} {base : Heap}
/-- what a body's derivation is -/
abbrev Der (bm : Bool) (P : Program) (w : World) (K : PySem.W.Frag) (mg : Str → Option Value) (base : Heap) (k : Nat) (N : List Str) (qual : Str) (f : Addr) (scope : Scope) (body : List Stmt) (ww : WS) : Prop :=
  ∀ (cdv : Value) (A : Around) (outer : List Env) (s : Shared) (H : Hp) (E : XK), Bare bm A → Room k (A.deeper (envOfC qual scope s.heap.objs.size f cdv)) →
    Takes (cxOf (L2.CX P w) P w K mg base N qual scope f cdv A outer s H E) (fun c d _ H => E c d H) → PassesOwn (model P w) (A.deeper (envOfC qual scope s.heap.objs.size f cdv)) (envOfC qual scope s.heap.objs.size f cdv) (cxOf (L2.CX P w) P w K mg base N qual scope f cdv A outer s H E).xe →
    PSs (cxOf (L2.CX P w) P w K mg base N qual scope f cdv A outer s H E) body (lowS (fun c d _ H => E c d H) ww)
theorem fn_top {name : Str} {st : Stmt} {N ps : List Str} {n k : Nat} {sp : DSp} (D : DefOf K mg name st) (S : FnScope N ps (defScope st)) (hn : ps.length = n)
    (hbi : ∀ (kV doc pm : Value) (an : Option Addr) (cdv ct : Value) (us : List Value), us.length = ps.length → bindArgs (PySem.W.fnOf name name (defArgs st) (defBody st) (defScope st) .none kV doc pm an cdv ct) ⟨us, []⟩ = pure (ps.zip us))
    (hb : ∃ ww : WS, Der bm P w K mg base k N name (He.ga K name) (defScope st) (defBody st) ww ∧ ∀ ds M Q E, ds.length = n → sp ds M Q E → ww (endsD Q E) (startD N ds) M) : Fn bm P w K mg base name n (k + 1) sp := by
  obtain ⟨fd, F⟩ := D.fd
  exact fn_def F S hn D.gl (F.bindsN hbi) hb
/-- a method, by its data -/
theorem fr_def {name qual : Str} {st : Stmt} {N ps : List Str} {n k : Nat} {sp : DSp} {f : Addr} (D : ∃ fd, FunD K name qual (defArgs st) (defBody st) (defScope st) [] [] f fd) (S : FnScope N ps (defScope st)) (hn : ps.length = n)
    (hbi : ∀ (kV doc pm : Value) (an : Option Addr) (cdv ct : Value) (us : List Value), us.length = ps.length → bindArgs (PySem.W.fnOf name qual (defArgs st) (defBody st) (defScope st) .none kV doc pm an cdv ct) ⟨us, []⟩ = pure (ps.zip us))
    (hb : ∃ ww : WS, Der bm P w K mg base k N qual f (defScope st) (defBody st) ww ∧ ∀ ds M Q E, ds.length = n → sp ds M Q E → ww (endsD Q E) (startD N ds) M) : FR bm P w K mg base (k + 1) f (liftV (fun ds M Q E => ds.length = n ∧ sp ds M Q E)) := by
  obtain ⟨fd, F⟩ := D
  exact (FR.of (fn_ok F S hn hb) (F.bindsN hbi)).imp fun vs H Q E h => lift_V h
/-- .. with a star parameter behind n others -/
theorem fr_defS {name qual : Str} {st : Stmt} {N ps : List Str} {pv : Str} {n k : Nat} {sp : DSp} {f : Addr} (D : ∃ fd, FunD K name qual (defArgs st) (defBody st) (defScope st) [] [] f fd) (S : FnScope N (ps ++ [pv]) (defScope st)) (hn : ps.length = n)
    (hbi : ∀ (kV doc pm : Value) (an : Option Addr) (cdv ct : Value) (us rest : List Value), us.length = ps.length → bindArgs (PySem.W.fnOf name qual (defArgs st) (defBody st) (defScope st) .none kV doc pm an cdv ct) ⟨us ++ rest, []⟩ = (newTuple rest >>= fun t => pure (ps.zip us ++ [(pv, t)])))
    (hb : ∃ ww : WS, Der bm P w K mg base k N qual f (defScope st) (defBody st) ww ∧ ∀ ds M Q E, ds.length = n + 1 → sp ds M Q E → ww (endsD Q E) (startD N ds) M) :
    FR bm P w K mg base (k + 1) f (liftV (fun ds M Q E => ∃ ws rest, ds = ws ++ rest ∧ ws.length = n ∧ rest.length ≤ 100000 ∧ sp (ws ++ [.tup rest]) M Q E)) := by
  obtain ⟨fd, F⟩ := D
  have F0 := F
  obtain ⟨ww, hd, hr⟩ := hb
  have hb2 : ∀ us rest : List Value, us.length = ps.length → bindArgs fd ⟨us ++ rest, []⟩ = (newTuple rest >>= fun t => pure (ps.zip us ++ [(pv, t)])) := by
    obtain ⟨oc, od, dV, kV, doc, pm, an, cdv, ct, osl, rfl, _, _, hD, _⟩ := F.ex
    rcases hD with ⟨_, rfl⟩ | ⟨e, _⟩
    · exact hbi kV doc pm an cdv ct
    · exact absurd rfl e
  have z := fr_star (P := P) (w := w) (mg := mg) (base := base) (k := k) (sp := lift (n + 1) sp) F0 S hb2 fun cdv A outer s H vs Q E bA room h => by
    refine ⟨_, hd cdv A outer s H E bA room (takes_of rfl rfl rfl rfl) (passes_of (X := cxOf (L2.CX P w) P w K mg base N qual (defScope st) f cdv A outer s H E) rfl), ?_⟩
    obtain ⟨ds, Hf, M, Qd, Xd, hl, r, wd, q, k1, k2⟩ := h
    exact ⟨startD N ds, Hf, M, endsD Qd Xd, r.start wd, hr ds M Qd Xd hl q, fun sl' Hf' M' σ' H' s _ z => k1 .non Hf' M' .non H' s .non z, k1, fun _ _ _ _ _ _ _ z => z.elim, fun _ _ _ _ _ _ _ z => z.elim, fun c sl' Hf' M' σ' H' s _ z => k2 c Hf' M' H' s z⟩
  refine z.imp fun vs H Q E h => ?_
  obtain ⟨ds, Hf, M, Qd, Xd, r, wd, ⟨ws, rest, rfl, hl, hz, q⟩, k1, k2⟩ := h
  have r1 := r.take n
  have r2 := r.drop n
  rw [List.take_left' hl] at r1
  rw [List.drop_left' hl] at r2
  refine ⟨vs.take n, vs.drop n, (List.take_append_drop n vs).symm, by rw [r1.length, hl, hn], by rw [r2.length]; exact sz5 hz, fun p o hp ho => ?_⟩
  have gr : Grow Hf H (upd Hf p (.frz o (.tup (vs.drop n)))) (upd H p (.frz o (.tup (vs.drop n)))) := Grow.one wd.le hp
  have st := Stp.grow wd gr
  refine ⟨_, _, M, Qd, Xd, by rw [List.length_append, hl]; rfl, (r1.mono gr.fz).append (.cons (.tup upd_same ho (r2.mono gr.fz)) .nil), st.wd, q, fun d Hf' M' v H' s => k1 d Hf' M' v H' (st.trans s), fun c Hf' M' H' s => k2 c Hf' M' H' (st.trans s)⟩
/-- a module's whole number, text -/
theorem d_gI {X : Cx} {W : WX} {x : Str} {i : Int} {pos : Pos} (hg : Gl X x) (hm : ∃ t, X.mg x = some (.int i t)) (hd : (x == ("__debug__" : Str)) = false := by decide) : PE X (.Name x pos) (low W (wC (.int i))) := by
  obtain ⟨t, hm⟩ := hm
  exact d_glob (v := .int i) hg hm ⟨t, rfl⟩ (fun _ => .int i) hd
theorem d_gS {X : Cx} {W : WX} {x z : Str} {pos : Pos} (hg : Gl X x) (hm : ∃ t, X.mg x = some (.str z t)) (hd : (x == ("__debug__" : Str)) = false := by decide) : PE X (.Name x pos) (low W (wC (.str z))) := by
  obtain ⟨t, hm⟩ := hm
  exact d_glob (v := .str z) hg hm ⟨t, rfl⟩ (fun _ => .str z) hd
theorem d_gC {X : Cx} {W : WX} {x : Str} {C : Addr} {pos : Pos} (hg : Gl X x) (hm : X.mg x = some (.ref C)) (hd : (x == ("__debug__" : Str)) = false := by decide) : PE X (.Name x pos) (low W (wC (.raw (.ref C)))) := d_glob (v := .ref C) hg hm rfl (fun _ => .raw _) hd
theorem d_ty {X : Cx} {W : WX} {x : Str} {n : String} {pos : Pos} (hg : Gl X x) (hm : X.mg x = none) (hv : bootBuiltins x = some (.type n)) (hn : x ≠ "__name__" := by decide) (hd : (x == ("__debug__" : Str)) = false := by decide) : PE X (.Name x pos) (low W (wC (.raw (.ty n)))) :=
  d_bltn (v := .ty n) hg hm hv rfl (fun _ => .raw _) hn hd
/-- - e -/
def wNeg (we : DL.WE) : DL.WE := fun sl M Q E => we sl M (fun d M1 => ∃ i, d = .int i ∧ Q (.int (-i)) M1) E
theorem d_neg {X : Cx} {W : WX} {e : Expr} {we : DL.WE} {pos : Pos} (he : PE X e (low W we)) : PE X (.UnaryOp .USub e pos) (low W (wNeg we)) :=
  PE.imp (pe_un un_neg he) fun σ H Q ⟨sl, Hf, M, Qd, Xd, rl, w, k, kx⟩ => ⟨sl, Hf, M, _, Xd, rl, w, fun d Hf1 M1 v H1 s1 r1 w1 => by
    obtain ⟨i, rfl, q⟩ := w1
    cases r1
    exact ⟨i, rfl, k _ Hf1 M1 _ H1 s1 (.int _) q⟩, kx⟩
end
end DL
/-! DLb: lists taken up as data, sums that change, three names, try, sorted pairs. -/
namespace DL
open PySem PySem.Spec PyProof.Rows L2
section
variable {X : Cx} {W : WX} {e a b c : Expr} {es : List Expr} {pos : Pos} {we wa wb : DL.WE}
/-- the value of e, a list that changed, is data from here on -/
def wFrz (we : DL.WE) : DL.WE := fun sl M Q E => we sl M (fun d M1 => ∃ p ds, d = .raw (.ref p) ∧ M1 p = some (.lst ds) ∧ Q (.lst ds) (delM M1 p)) E
theorem d_frz (he : PE X e (low W we)) : PE X e (low W (wFrz we)) :=
  PE.imp he fun σ H Q ⟨sl, Hf, M, Qd, Xd, rl, w, k, kx⟩ => ⟨sl, Hf, M, _, Xd, rl, w, fun d Hf1 M1 v H1 s1 r1 w1 => by
    obtain ⟨p, ds, rfl, hp, q⟩ := w1
    cases r1
    obtain ⟨Hf2, s2, r2⟩ := Stp.freeze s1.wd hp
    exact k _ Hf2 _ _ H1 (s1.trans s2) r2 q, kx⟩
/-- a + b, lists: a list that will change -/
def wAddN (wa wb : DL.WE) : DL.WE := fun sl M Q E => wa sl M (fun d M1 => wb sl M1 (fun e M2 => ∃ xs ys, der M2 d = .lst xs ∧ der M2 e = .lst ys ∧ xs.length + ys.length ≤ 100000 ∧ ∀ p, M2 p = none → Q (.raw (.ref p)) (updM M2 p (.lst (xs ++ ys)))) E) E
theorem d_addN (ha : PE X a (low W wa)) (hb : PE X b (low W wb)) : PE X (.BinOp a .Add b pos) (low W (wAddN wa wb)) := by
  refine PE.imp (pe_op op_cat ha hb) fun σ H Q ⟨sl, Hf, M, Qd, Xd, rl, w, k, kx⟩ => ⟨sl, Hf, M, _, Xd, rl, w, fun d Hf1 M1 v H1 s1 r1 w1 => ?_, kx⟩
  refine ⟨sl, Hf1, M1, _, Xd, rl.step s1, w1, fun e Hf2 M2 u H2 s2 r2 w2 => ?_, fun c Hf2 M2 H2 s2 hx => kx c Hf2 M2 H2 (s1.trans s2) hx⟩
  obtain ⟨xs, ys, ex, ey, hz, q⟩ := w2
  have hx := RepT.of s2.wd (r1.mono s2.up)
  have hy := RepT.of s2.wd r2
  rw [ex] at hx
  rw [ey] at hy
  obtain ⟨l1, us, rfl, h1, ra⟩ := hx.lst s2.wd.le
  obtain ⟨l2, vs, rfl, h2, rb⟩ := hy.lst s2.wd.le
  refine ⟨l1, l2, us, vs, rfl, rfl, h1, h2, by rw [ra.length, rb.length]; exact sz5 hz, fun p hp => ?_⟩
  exact k (.raw (.ref p)) Hf2 _ (.ref p) _ ((s1.trans s2).trans (Stp.write (mo := .lst (xs ++ ys)) s2.wd (.inr hp) ⟨_, upd_same, ra.append rb⟩)) (.raw _) (q p (s2.wd.free hp).1)
/-- a, b, c = x, y, z: plain names -/
def wPar3 (i j l : Nat) (wa : WA) : WS := fun E sl M => wa sl M (fun ds M1 => ∃ d1 d2 d3, ds = [d1, d2, d3] ∧ E.nx (((sl.set i (some d1)).set j (some d2)).set l (some d3)) M1) (fun c M => E.ex c sl M)
theorem s_par3 {i j l : Nat} {x y z : Str} {wr : WA} {px py pz pt : Pos} {kt k2 pt2} (hc : X.calm = true) (hN : X.N.Nodup) (hi : X.N[i]? = some x) (hj : X.N[j]? = some y) (hl : X.N[l]? = some z) (hij : i ≠ j) (hil : i ≠ l) (hjl : j ≠ l)
    (hx : X.env.scope.names.lookup x = some .local) (hy : X.env.scope.names.lookup y = some .local) (hz : X.env.scope.names.lookup z = some .local) (ha : PA X [a, b, c] (lowA W wr))
    (hw : swappedStores [.Tuple [.Name x px, .Name y py, .Name z pz] kt pt] (.Tuple [a, b, c] k2 pt2) X.env = pure (some [x, y, z]))
    (hs : swapsWithSole [.Tuple [.Name x px, .Name y py, .Name z pz] kt pt] (.Tuple [a, b, c] k2 pt2) pos.line X.env = pure false := by rfl) :
    PS X (.Assign [.Tuple [.Name x px, .Name y py, .Name z pz] kt pt] (.Tuple [a, b, c] k2 pt2) pos) (lowS W (wPar3 i j l wr)) := by
  refine PS.imp (ps_par3 hc hN hi hj hl hij hil hjl hx hy hz ha hw hs) fun D σ H ⟨sl, Hf, M, E, rl, w, k1, k2, k3, k4, k5⟩ => ⟨sl, Hf, M, _, _, rl, w, fun ds Hf1 M1 vs H1 s1 r1 w1 => ?_, fun c Hf' M' H' s q => k5 c sl Hf' M' σ H' s (rl.step s) q⟩
  obtain ⟨d1, d2, d3, rfl, q⟩ := w1
  cases r1 with
  | cons h1 r1 =>
    cases r1 with
    | cons h2 r2 =>
      cases r2 with
      | cons h3 r3 =>
        cases r3
        exact ⟨_, _, _, rfl, k1 _ Hf1 M1 _ H1 s1 ((((rl.step s1).set i h1).set j h2).set l h3) q⟩
/-- try: body / except ..: the body raises nothing -/
def wTry (w : WS) : WS := fun E sl M => w { E with ex := fun _ _ _ => False } sl M
theorem s_try {body : List Stmt} {h₀ : ExceptHandler} {hs : List ExceptHandler} {w : WS} (hb : PSs X.nox body (lowS W0 w)) : PS X (.Try body (h₀ :: hs) [] [] pos) (lowS W (wTry w)) :=
  PS.imp (ps_try_thru0 hb) fun D σ H ⟨sl, Hf, M, E, rl, w, k1, k2, k3, k4, k5⟩ => ⟨sl, Hf, M, { E with ex := fun _ _ _ => False }, rl, w, k1, k2, k3, k4, fun _ _ _ _ _ _ _ _ z => z⟩
theorem po_nox : PassesOwn (model X.prog X.w) X.A X.env X.nox.xe := PassesOwn.never
/-! ### sorted(pairs) -/
def pairD (p : Int × Int) : Dd := .tup [.int p.1, .int p.2]
def leP (p q : Int × Int) : Prop := p.1 < q.1 ∨ (p.1 = q.1 ∧ p.2 ≤ q.2)
end
end DL
/-! EncL: plain things as data. -/
namespace DL
open PySem PySem.Spec PyProof.Rows L2
class Enc (α : Type) where
  enc : α → Dd
  pe : α → PyData
  deep : Nat
  hp : ∀ a, py (enc a) = some (pe a)
  dp : ∀ a, (pe a).depth ≤ deep
  eqv : ∀ a b, PyData.eqv (pe a) (pe b) = true ↔ a = b
open Enc
section
variable {α β : Type} [Enc α] [Enc β]
theorem pyAll_enc : ∀ l : List α, pyAll (l.map enc) = some (l.map pe)
  | [] => rfl
  | a :: l => by rw [List.map_cons, List.map_cons, pyAll, hp a, pyAll_enc l]; rfl
theorem depthAll_enc : ∀ l : List α, PyData.depthAll (l.map pe) ≤ deep α
  | [] => Nat.zero_le _
  | a :: l => by
    rw [List.map_cons, PyData.depthAll]
    exact Nat.max_le.mpr ⟨dp a, depthAll_enc l⟩
theorem eqvAll_enc : ∀ l m : List α, PyData.eqvAll (l.map pe) (m.map pe) = true ↔ l = m
  | [], [] => by simp [PyData.eqvAll]
  | [], _ :: _ => by simp [PyData.eqvAll]
  | _ :: _, [] => by simp [PyData.eqvAll]
  | a :: l, b :: m => by
    rw [List.map_cons, List.map_cons, PyData.eqvAll, Bool.and_eq_true, Enc.eqv a b, eqvAll_enc l m, List.cons.injEq]
end
instance : Enc Int where
  enc := .int
  pe := .int
  deep := 0
  hp _ := rfl
  dp _ := Nat.le_refl _
  eqv a b := by simp [PyData.eqv]
instance {α β : Type} [Enc α] [Enc β] : Enc (α × β) where
  enc p := .tup [enc p.1, enc p.2]
  pe p := .tuple [pe p.1, pe p.2]
  deep := max (deep α) (deep β) + 1
  hp p := by simp [py, pyAll, hp]
  dp p := by
    have h1 := dp p.1
    have h2 := dp p.2
    simp only [PyData.depth, PyData.depthAll]
    omega
  eqv a b := by
    obtain ⟨a1, a2⟩ := a
    obtain ⟨b1, b2⟩ := b
    simp only [PyData.eqv, PyData.eqvAll, Bool.and_eq_true, Enc.eqv, and_true, Prod.mk.injEq]
instance {α : Type} [Enc α] : Enc (List α) where
  enc l := .tup (l.map enc)
  pe l := .tuple (l.map pe)
  deep := deep α + 1
  hp l := by simp [py, pyAll_enc]
  dp l := by
    have h1 := depthAll_enc l
    simp only [PyData.depth]
    omega
  eqv l m := by
    simp only [PyData.eqv]
    exact eqvAll_enc l m
abbrev Case := List (Int × Int)
abbrev Rule := Case × Int
section
variable {α : Type} [Enc α]
theorem any_enc (a : α) (l : List α) [Decidable (a ∈ l)] : ((l.map pe).any fun y => PyData.eqv y (pe a)) = decide (a ∈ l) := by
  rw [Bool.eq_iff_iff]
  simp only [List.any_eq_true, List.mem_map, decide_eq_true_eq]
  constructor
  · rintro ⟨_, ⟨b, hb, rfl⟩, h⟩
    rw [Enc.eqv] at h
    exact h ▸ hb
  · intro h
    exact ⟨_, ⟨a, h, rfl⟩, (Enc.eqv a a).mpr rfl⟩
theorem gInB_tup {f : Bool → Bool} (hd : deep α ≤ 64) (hs : ∀ a : α, ∀ z, enc a ≠ .str z) (a : α) (l : List α) [Decidable (a ∈ l)] : gInB f (enc a) (.tup (l.map enc)) = some (.bl (f (decide (a ∈ l)))) := by
  have e : gInB f (enc a) (.tup (l.map enc)) = (py (enc a)).bind fun p => (pyAll (l.map enc)).bind fun qs => if p.depth ≤ 64 then some (.bl (f (qs.any fun y => PyData.eqv y p))) else none := by
    cases enc a <;> rfl
  rw [e, hp, pyAll_enc]
  simp only [Option.bind_some, any_enc, if_pos (Nat.le_trans (dp a) hd)]
theorem gInB_lst {f : Bool → Bool} (hd : deep α ≤ 64) (a : α) (l : List α) [Decidable (a ∈ l)] : gInB f (enc a) (.lst (l.map enc)) = some (.bl (f (decide (a ∈ l)))) := by
  have e : gInB f (enc a) (.lst (l.map enc)) = (py (enc a)).bind fun p => (pyAll (l.map enc)).bind fun qs => if p.depth ≤ 64 then some (.bl (f (qs.any fun y => PyData.eqv y p))) else none := by
    cases enc a <;> rfl
  rw [e, hp, pyAll_enc]
  simp only [Option.bind_some, any_enc, if_pos (Nat.le_trans (dp a) hd)]
theorem gEqB_enc {f : Bool → Bool} (hd : deep α ≤ 64) (a b : α) [Decidable (a = b)] : gEqB f (enc a) (enc b) = some (.bl (f (decide (a = b)))) := by
  unfold gEqB
  rw [hp, hp]
  have e : PyData.eqv (pe a) (pe b) = decide (a = b) := by
    rw [Bool.eq_iff_iff, Enc.eqv, decide_eq_true_eq]
  simp only [Option.bind_some, if_pos (Nat.le_trans (dp a) hd), e]
end
end DL
/-! DLt: sorted of a tuple. -/
namespace DL
open PySem PySem.Spec PyProof.Rows PySem.W PySem.Calls
section
variable {prog : Program} {w : World} {A : Around} {E : Value → Shared → Prop} {s : Shared} {l : Addr} {vs : List Value}
/-- the heap behind collecting -/
abbrev colH (h : Heap) (vs : List Value) : Heap := (h.push (seqObj "list" #[] 0)).update h.objs.size (Obj.mapSeq (· ++ vs.toArray))
theorem collectT {Q : List Value → Shared → Prop} (hl : IsTup s.heap l vs.toArray) (hz : vs.length ≤ sizeLine) (h : Q vs { s with heap := colH s.heap vs }) : wpAny (model prog w) A (collect (.ref l)) Q E s := by
  obtain ⟨o, ho, hc, n, hd⟩ := id hl
  have h0 : (s.heap.push (seqObj "list" #[] 0)).get? l = some o := Heap.get?_push_of_some _ ho
  have h1 : (s.heap.push (seqObj "list" #[] 0)).get? s.heap.objs.size = some (seqObj "list" #[] 0) := Heap.get?_push_size _ rfl
  have z2 : (#[] ++ vs.toArray).size ≤ sizeLine + 1 := by
    rw [Array.size_append, List.size_toArray]
    simp only [List.size_toArray, List.length_nil]
    omega
  unfold collect
  apply wpAny_bind
  apply wpAny_runValue
  apply codeAny_builtin entry_proto_collect'
  show wpAny _ _ (do again (.builtin "list.__iadd__" ⟨[← newList [], .ref l], []⟩)) _ _ s
  apply wpAny_bind
  refine wpAny_newList ?_ (Nat.zero_le _)
  apply wpAny_pure
  refine ⟨Code.quiet_builtin _ (by decide +kernel), ?_⟩
  apply codeAny_builtin entry_list_iadd'
  show wpAny _ _ (Builtin.List.listExtendWith (.ref s.heap.objs.size) (.ref l) (.ref s.heap.objs.size)) _ _ { s with heap := s.heap.push (seqObj "list" #[] 0) }
  unfold Builtin.List.listExtendWith
  apply wpAny_bind
  have ty : Shared.TypeIs { s with heap := s.heap.push (seqObj "list" #[] 0) } (.ref l) "tuple" := ⟨o, h0, hc⟩
  apply wpAny_typeOf ty
  have bt : (Value.type "tuple" == Value.type "tuple") = true := rfl
  rw [if_pos (by rw [bt]; simp)]
  apply wpAny_bind
  apply listItems_at h0 hd
  apply wpAny_bind
  apply listItems_at (xs := #[]) (n := 0) h1 rfl
  rw [if_neg (by simp)]
  apply wpAny_bind
  refine listUpdate_at (xs := #[]) (n := 0) h1 rfl ?_ (Nat.zero_le _) z2
  apply wpAny_pure
  show wpAny (model prog w) A (do
      match (← load s.heap.objs.size).data with
      | .seq xs _ => pure xs.toList
      | _ => unsupported "internal:collect") Q E { s with heap := colH s.heap vs }
  apply wpAny_bind
  apply wpAny_load (get?_update_seq h1 _)
  have e : ((#[] : Array Value) ++ vs.toArray).toList = vs := by simp
  show wpAny _ _ (pure ((#[] : Array Value) ++ vs.toArray).toList) Q E _
  rw [e]
  exact wpAny_pure h
/-- sorted(t, ..) is list.sort(..) on a new list of t's items -/
theorem sortedT_of {kw : List (Str × Value)} {Q : Value → Shared → Prop} (hl : IsTup s.heap l vs.toArray) (hz : vs.length ≤ sizeLine) (a1 : argsOk "sorted" ⟨[.ref l], kw⟩) (a2 : ∀ x, argsOk "list.sort" ⟨[.ref x], kw⟩)
    (body : ∀ E' : Value → Shared → Prop, wpAny (model prog w) A.in1.in1 (Builtin.«list.sort» ⟨[.ref (s.heap.objs.size + 1)], kw⟩) (fun f t => f = .done (.ret .none) ∧ Q (.ref (s.heap.objs.size + 1)) t) E' { s with heap := copyHeap s.heap vs }) :
    wpAny (model prog w) A (call (.builtin "sorted") [.ref l] kw) Q E s := by
  apply call_function_entry_kw kind_sorted plain_sorted entry_sorted a1
  unfold Builtin.«sorted»
  apply wpAny_bind (m := checkCount "sorted" 1 1 _)
  apply wpAny_pure
  apply wpAny_bind
  apply collectT hl hz
  apply wpAny_bind
  refine wpAny_newList ?_ hz
  have hsz : (colH s.heap vs).objs.size = s.heap.objs.size + 1 := by rw [Heap.size_update, size_push']
  show wpAny _ _ _ _ _ { s with heap := copyHeap s.heap vs }
  rw [hsz]
  apply wpAny_bind
  apply wpAny_holding
  have ty : Shared.TypeIs { s with heap := copyHeap s.heap vs } (.ref (s.heap.objs.size + 1)) "list" := ⟨_, copyHeap_at s.heap vs, rfl⟩
  apply wpAny_call_entry_kw slot_list_sort ty entry_list_sort _ (a2 _)
  apply wpAny_mono (body _) _ (fun _ _ e => e)
  rintro f t ⟨rfl, hq⟩
  exact ⟨_, rfl, wpAny_pure ⟨_, rfl, hq⟩⟩
variable {β : Type} {bs : List β} {R : Value → β → Prop}
/-- sorted(t) -/
theorem sortedT_data {ec : β → PyData} {Q : Value → Shared → Prop} (hl : IsTup s.heap l vs.toArray) (e : EachIs R vs bs) (er : EachIs (fun v b => ∃ as, Reads s.heap v (ec b) as) vs bs) (hal : AllAlike (bs.map ec)) (hk : Sortable (bs.map ec)) (hL : bs.length ≤ sizeLine)
    (hu : ∀ b, b ∈ bs → A.units + 2 + (ec b).depth < cLine) (h : ∀ out, out.length = bs.length → EachIs R out (bs.mergeSort (dataLe false ec)) → Q (.ref (s.heap.objs.size + 1)) { s with heap := sortedAll s.heap vs (List.toArray out) }) :
    wpAny (model prog w) A (call (.builtin "sorted") [.ref l]) Q E s := by
  have hz : vs.length ≤ sizeLine := by rw [e.length]; exact hL
  let h2 := sortingHeap (copyHeap s.heap vs) (s.heap.objs.size + 1) vs
  have e2 : EachIs (fun v b => ∃ as, Reads h2 v (ec b) as) vs bs := er.mono fun _ _ ⟨as, r⟩ => ⟨as, PyProof.Rows.Reads.keeps (fun _ _ => sorting_copy_old) r⟩
  have S : SortsAt prog w A.in1.in1 { s with heap := h2 } (dataKind h2 (bs.map ec)) vs := SortsAt.data (s := { s with heap := h2 }) (each_map (R := fun v d => ∃ as, Reads h2 v d as) ec e2) hal hk (bound_map hu)
  apply sortedT_of hl hz (args_sorted1 _) fun _ => args_list_sort _
  intro E'
  exact list_sort_vals (s := { s with heap := copyHeap s.heap vs }) (copyHeap_at s.heap vs) S hz ⟨rfl, h _ ((sortVals_length false rfl).trans e.length) (sortVals_data false e e2 hal)⟩
/-- sorted(t, key=f) -/
theorem sortedT_key {f : Value} {kw : List (Str × Value)} {b : Bool} {Q : Value → Shared → Prop} (k : β → PyData) (hl : IsTup s.heap l vs.toArray) (e : EachIs R vs bs) (hal : AllAlike (bs.map k)) (hk : Sortable (bs.map k)) (hL : bs.length ≤ sizeLine)
    (hu : ∀ x, x ∈ bs → A.units + 2 + (k x).depth < cLine) (a1 : argsOk "sorted" ⟨[.ref l], kw⟩) (a2 : ∀ x, argsOk "list.sort" ⟨[.ref x], kw⟩) (ht : ∀ x, Builtin.«list.sort» ⟨[.ref x], kw⟩ = ksk_tree x f b)
    (turn : ∀ (v : Value) (x : β), R v x → x ∈ bs → ∀ (h : Heap) (tk : Nat), (∀ b o, s.heap.get? b = some o → h.get? b = some o) →
      wpAny (model prog w) A.in1.in1 (call f [v]) (KeyPure (k x) { s with heap := h, toks := tk }) (fun _ _ => False) { s with heap := h, toks := tk })
    (h : ∀ out c h' tk, (∀ b o, s.heap.get? b = some o → h'.get? b = some o) → h'.get? (s.heap.objs.size + 1) = some (seqObj "list" (List.toArray out) c) → out.length = bs.length → EachIs R out (bs.mergeSort (dataLe b k)) →
      Q (.ref (s.heap.objs.size + 1)) { s with heap := h', toks := tk }) :
    wpAny (model prog w) A (call (.builtin "sorted") [.ref l] kw) Q E s := by
  have hz : vs.length ≤ sizeLine := by rw [e.length]; exact hL
  have lk : (bs.map k).length = vs.length := by rw [List.length_map, e.length]
  have up : ∀ {g : Heap}, KeepsBut (s.heap.objs.size + 1) (copyHeap s.heap vs) g → ∀ b o, s.heap.get? b = some o → g.get? b = some o := fun {g} kp b o q => kp b o (Nat.ne_of_lt (Nat.lt_succ_of_lt (Heap.lt_size q))) (copyHeap_old q)
  apply sortedT_of hl hz a1 a2
  intro E'
  rw [ht]
  have tu := keyH_turns (prog := prog) (w := w) (A := A.in1.in1) (f := f) (k := k) (s := { s with heap := copyHeap s.heap vs }) (h₁ := copyHeap s.heap vs) (a := s.heap.objs.size + 1) e fun v x hR hx h tk kp => turn v x hR hx h tk (up kp)
  apply keyH_tree (kz := bs.map k) (s := { s with heap := copyHeap s.heap vs }) (copyHeap_at s.heap vs) lk hz hal hk (bound_map (A := A.in1.in1) hu) tu
  intro h' tk out c kp hD ko
  exact ⟨rfl, h out c h' tk (up kp) hD ((ko.length lk).trans e.length) (keyedOut_each k ko e)⟩
end
end DL
/-! DLs: sorted of data of one kind, any depth, any length. -/
namespace DL
open PySem PySem.Spec PyProof.Rows L2 Enc
open PySem.W (EachIs alike alikeAll dataLt AllAlike Sortable dataLe)
/-- data of one kind, with Python's order -/
class EncO (α : Type) extends Enc α where
  lt : α → α → Bool
  al : ∀ a b : α, alike (Enc.pe a) (Enc.pe b) = true
  ltp : ∀ a b : α, dataLt (Enc.pe a) (Enc.pe b) = lt a b
/-- .. that the sort takes -/
class EncS (α : Type) extends EncO α where
  srt : (∀ a : α, ∃ x r, Enc.pe a = .tuple (x :: r)) ∨ ∀ a : α, Enc.pe a ≠ .none ∧ ∀ xs, Enc.pe a ≠ .tuple xs
  sh : Enc.deep α ≤ 60
open EncO (lt)
instance : EncO Int where
  lt a b := decide (a < b)
  al _ _ := rfl
  ltp a b := PySem.W.dataLt_int a b
instance : EncS Int where
  srt := .inr fun a => ⟨nofun, nofun⟩
  sh := by decide
theorem eqv_dec {α : Type} [Enc α] (a b : α) [Decidable (a = b)] : PyData.eqv (pe a) (pe b) = decide (a = b) := by
  rw [Bool.eq_iff_iff, Enc.eqv, decide_eq_true_eq]
open Classical in
noncomputable instance {α β : Type} [EncO α] [EncO β] : EncO (α × β) where
  lt p q := if p.1 = q.1 then (if p.2 = q.2 then false else lt p.2 q.2) else lt p.1 q.1
  al p q := by
    have h1 := EncO.al p.1 q.1
    have h2 := EncO.al p.2 q.2
    show alike (.tuple [pe p.1, pe p.2]) (.tuple [pe q.1, pe q.2]) = true
    simp [alike, alikeAll, h1, h2]
  ltp p q := by
    show dataLt (.tuple [pe p.1, pe p.2]) (.tuple [pe q.1, pe q.2]) = _
    rw [PySem.W.dataLt_pair (EncO.al _ _) (EncO.al _ _), EncO.ltp, EncO.ltp, eqv_dec, eqv_dec]
    simp
open Classical in
/-- lists, by the first place that differs -/
noncomputable def lexL {α : Type} [EncO α] : List α → List α → Bool
  | [], [] => false
  | [], _ :: _ => true
  | _ :: _, [] => false
  | a :: l, b :: m => if a = b then lexL l m else lt a b
theorem alikeAll_enc {α : Type} [EncO α] : ∀ l m : List α, alikeAll (l.map pe) (m.map pe) = true
  | [], m => by cases m <;> rfl
  | a :: l, [] => rfl
  | a :: l, b :: m => by
    rw [List.map_cons, List.map_cons, alikeAll, EncO.al, alikeAll_enc l m]
    rfl
theorem lexL_toks {α : Type} [EncO α] : ∀ l m : List α, PyProof.Rows.lexLt PyProof.Rows.itemOrd (PySem.W.keyToksAll (l.map pe)) (PySem.W.keyToksAll (m.map pe)) = lexL l m
  | [], [] => PyProof.Rows.lex_irrefl _
  | [], b :: m => by
    rw [List.map_nil, List.map_cons, PySem.W.toks_all_cons]
    rfl
  | a :: l, [] => by
    rw [List.map_nil, List.map_cons, PySem.W.toks_all_cons]
    rfl
  | a :: l, b :: m => by
    rw [List.map_cons, List.map_cons, PySem.W.dataLt_cons (EncO.al a b), lexL_toks l m, EncO.ltp]
    classical
    rw [eqv_dec, lexL.eq_4]
    simp
noncomputable instance {α : Type} [EncO α] : EncO (List α) where
  lt := lexL
  al l m := by
    show alike (.tuple (l.map pe)) (.tuple (m.map pe)) = true
    rw [alike]
    exact alikeAll_enc l m
  ltp l m := by
    show dataLt (.tuple (l.map pe)) (.tuple (m.map pe)) = _
    rw [PySem.W.dataLt_tuple]
    exact lexL_toks l m
noncomputable instance : EncS (Int × Int) where
  srt := .inl fun a => ⟨_, _, rfl⟩
  sh := by decide
noncomputable instance : EncS Rule where
  srt := .inl fun a => ⟨_, _, rfl⟩
  sh := by decide
noncomputable instance : EncS (Int × Case) where
  srt := .inl fun a => ⟨_, _, rfl⟩
  sh := by decide
noncomputable instance : EncS (Int × Rule) where
  srt := .inl fun a => ⟨_, _, rfl⟩
  sh := by decide
/-! ### lists that go together -/
theorem each_vals {α : Type} {T : V → α → Prop} : ∀ {xs : List V} {us : List Value} {bs : List α}, Vals xs us → EachIs T xs bs → EachIs (fun u b => ∃ x, RelV x u ∧ T x b) us bs
  | _, _, _, .nil, .nil => .nil
  | _, _, _, .cons r t, .cons h e => .cons ⟨_, r, h⟩ (each_vals t e)
theorem each_back {α : Type} {T : V → α → Prop} : ∀ {us : List Value} {bs : List α}, EachIs (fun u b => ∃ x, RelV x u ∧ T x b) us bs → ∃ xs, Vals xs us ∧ EachIs T xs bs
  | _, _, .nil => ⟨[], .nil, .nil⟩
  | _, _, .cons ⟨x, r, h⟩ e => let ⟨xs, v, t⟩ := each_back e; ⟨x :: xs, .cons r v, .cons h t⟩
theorem each_rep {α : Type} [Enc α] {H : Hp} : ∀ {bs : List α} {xs : List V}, RepAll H xs (bs.map enc) → EachIs (fun x b => Rep H x (enc b)) xs bs
  | [], _, .nil => .nil
  | _ :: _, _, .cons h r => .cons h (each_rep r)
theorem rep_each {α : Type} [Enc α] {H : Hp} : ∀ {bs : List α} {xs : List V}, EachIs (fun x b => Rep H x (enc b)) xs bs → RepAll H xs (bs.map enc)
  | _, _, .nil => .nil
  | _, _, .cons h e => .cons h (rep_each e)
theorem each_reads {α : Type} [Enc α] {X : Cx} {pins : List (Addr × Obj)} {σ : L2.St} {H : Hp} {s : Shared} (I : Inv X pins σ H s) : ∀ {xs : List V} {us : List Value} {bs : List α}, Vals xs us → EachIs (fun x b => Dp X.K H x (pe b)) xs bs → EachIs (fun u b => ∃ as, Reads s.heap u (pe b) as) us bs
  | _, _, _, .nil, .nil => .nil
  | _, _, _, .cons r t, .cons h e => .cons (Dp.reads I _ _ _ h r) (each_reads I t e)
theorem each_mono {α β : Type} {R S : α → β → Prop} (h : ∀ a b, R a b → S a b) : ∀ {as : List α} {bs : List β}, EachIs R as bs → EachIs S as bs
  | _, _, .nil => .nil
  | _, _, .cons x e => .cons (h _ _ x) (each_mono h e)
/-- in order: none is less than one ahead of it -/
abbrev Asc {α : Type} [EncO α] (l : List α) : Prop := l.Pairwise fun a b => EncO.lt b a = false
theorem merge_asc {α : Type} [EncO α] (l : List α) : Asc (l.mergeSort (dataLe false pe)) := by
  refine (PySem.W.sort_pairwise (PySem.W.sortLe_total _ false _) l).imp fun {a b} h => ?_
  have h : (!dataLt (pe b) (pe a)) = true := h
  rw [EncO.ltp, Bool.not_eq_true'] at h
  exact h
/-- sorted of a list or a tuple of such data -/
def rSortD (α : Type) [EncS α] (K : PySem.W.Frag) : List V → Hp → VK → Prop := fun vs H Q => ∃ (l : Addr) (xs : List V) (bs : List α) (T : V → α → Prop), vs = [V.ref l] ∧ (SqL K H l xs ∨ SqT K H l xs) ∧ EachIs T xs bs ∧ EachIs (fun x b => Dp K H x (pe b)) xs bs ∧
  ∀ ys out p, EachIs T ys out → out.Perm bs → Asc out → H p = none → Q (.ref p) (upd H p (.lst ys))
section
variable {X : Cx} {W : WX} {e : Expr} {pos : Pos}
theorem cr_sortD {α : Type} [EncS α] (hu : X.A.units + 150 < cLine) : CallR X (.builtin "sorted") (rSortD α X.K) := by
  rintro pins s σ H vs us Q I r ⟨l, xs, bs, T, ev, hs, h1, h2, q⟩
  subst ev
  obtain ⟨u, eu, ru⟩ := vals1 r
  subst eu
  cases (show u = Value.ref l from ru)
  have hd := EncS.sh (α := α)
  have dep : ∀ b, b ∈ bs → X.A.units + 2 + (pe b).depth < cLine := fun b _ => by
    have := dp b
    omega
  have srt : Sortable (bs.map pe) := by
    rcases EncS.srt (α := α) with h | h
    · exact .tuples h
    · exact .others h
  have fin : ∀ its : List Value, Vals xs its → bs.length ≤ sizeLine → ∀ out : List Value, out.length = bs.length → EachIs (fun u b => ∃ x, RelV x u ∧ T x b) out (bs.mergeSort (dataLe false pe)) → EP X pins σ Q (.ref (s.heap.objs.size + 1)) { s with heap := sortedAll s.heap its (List.toArray out) } := by
    intro its rv hb out hlen eo
    obtain ⟨ys, vy, ty⟩ := each_back eo
    obtain ⟨n, at_⟩ := PyProof.Rows.sortedAll_at s.heap its (List.toArray out)
    have fr : H (s.heap.objs.size + 1) = none := I.hok.fresh (Nat.le_succ _)
    have hy : ys.length ≤ sizeLine := by rw [vy.length, hlen]; exact hb
    exact ⟨.ref _, _, I.laid (t' := s.toks) (fun b o z => PyProof.Rows.sortedAll_old z) (Nat.le_succ _) (show ObjOk X.prog X.w _ _ _ (.lst ys) from ⟨hy, out, n, vy, at_⟩), rfl, q ys _ _ ty (List.mergeSort_perm _ _) (merge_asc bs) fr⟩
  rcases hs with hs | hs
  · obtain ⟨its, rv, hl, hz⟩ := I.list hs
    have hb : bs.length ≤ sizeLine := by rw [← h1.length]; exact hz
    exact PySem.W.sorted_data (enc := pe) hl.isList (each_vals rv h1) (each_reads I rv h2) (.of EncO.al) srt hb dep (fin its rv hb)
  · obtain ⟨its, rv, hl, hz⟩ := I.tuple hs
    have hb : bs.length ≤ sizeLine := by rw [← h1.length]; exact hz
    exact sortedT_data (ec := pe) hl (each_vals rv h1) (each_reads I rv h2) (.of EncO.al) srt hb dep (fin its rv hb)
/-- a list's or a tuple's items -/
def seqOf : List Dd → Option (List Dd)
  | [.lst ds] => some ds
  | [.tup ds] => some ds
  | _ => none
/-- sorted(xs) -/
def wSort (α : Type) [EncS α] (wr : WA) : DL.WE := fun sl M Q E => wr sl M (fun ds M1 => ∃ l : List α, seqOf (ds.map (der M1)) = some (l.map enc) ∧ ∀ out : List α, out.Perm l → Asc out → Q (.lst (out.map enc)) M1) E
theorem d_sort (α : Type) [EncS α] {p : Pos} {wr : WA} (hu : X.A.units + 150 < cLine) (hg : Gl X "sorted") (hm : X.mg "sorted" = none) (ha : PA X [e] (lowA W wr))
    (he : starEach [e] X.env = (false, eval e X.env) :: starEach [] X.env := by rfl) (hpl : (backTo pos (starEach [] X.env)).any (·.1) = false := by rfl) : PE X (.Call (.Name "sorted" p) [e] [] pos) (low W (wSort α wr)) := by
  refine PE.imp (pe_callB (cr_sortD (α := α) hu) hg hm (by kernel_rfl) ha (by decide) (by decide) he hpl) fun σ H Q ⟨sl, Hf, M, Qd, Xd, rl, w, k, kx⟩ => ⟨sl, Hf, M, _, Xd, rl, w, fun ds Hf1 M1 vs H1 s1 r1 w1 => ?_, kx⟩
  obtain ⟨bs, ed, q⟩ := w1
  have rt := RepTs.of s1.wd r1
  have main : ∀ l xs, vs = [V.ref l] → (SqL X.K H1 l xs ∨ SqT X.K H1 l xs) → RepAll Hf1 xs (bs.map enc) → rSortD α X.K vs H1 (fun v H' => Q v H') := by
    intro l xs ev hs ra
    have er := each_rep ra
    refine ⟨l, xs, bs, fun x b => Rep Hf1 x (enc b), ev, hs, er, each_mono (fun x b h => (h.mono s1.wd.le).dp (hp b)) er, fun ys out p ty pm asc hn => ?_⟩
    have g := Grow.one (o := .lst ys) s1.wd.le hn
    exact k _ _ M1 _ _ (s1.trans (Stp.grow s1.wd g)) (.lst upd_same ((rep_each ty).mono g.fz)) (q out pm asc)
  have ed : ds.map (der M1) = [.lst (bs.map enc)] ∨ ds.map (der M1) = [.tup (bs.map enc)] := by
    unfold seqOf at ed
    split at ed
    · rename_i z; cases ed; exact .inl z
    · rename_i z; cases ed; exact .inr z
    · cases ed
  rcases ed with ed | ed
  · rw [ed] at rt
    obtain ⟨v, rfl, h⟩ := rt.one
    obtain ⟨l, xs, rfl, hl, r⟩ := h.lst s1.wd.le
    exact main l xs rfl (.inl (.of hl)) r
  · rw [ed] at rt
    obtain ⟨v, rfl, h⟩ := rt.one
    obtain ⟨l, xs, rfl, hl, r⟩ := h.tup
    exact main l xs rfl (.inr (.inl (rd_mono s1.wd.le hl))) r
end
theorem lt_pair {α β : Type} [EncO α] [EncO β] (p q : α × β) : EncO.lt p q = true ↔ (p.1 ≠ q.1 ∧ EncO.lt p.1 q.1 = true) ∨ (p.1 = q.1 ∧ p.2 ≠ q.2 ∧ EncO.lt p.2 q.2 = true) := by
  classical
  have e : EncO.lt p q = if p.1 = q.1 then (if p.2 = q.2 then false else EncO.lt p.2 q.2) else EncO.lt p.1 q.1 := by
    show (if _ then _ else _) = _
    congr
  rw [e]
  by_cases h1 : p.1 = q.1
  · rw [if_pos h1]
    by_cases h2 : p.2 = q.2
    · rw [if_pos h2]; simp [h1, h2]
    · rw [if_neg h2]; simp [h1, h2]
  · rw [if_neg h1]; simp [h1]
theorem lt_int (a b : Int) : EncO.lt a b = true ↔ a < b := by
  show decide (a < b) = true ↔ _
  simp
theorem asc_pairs {l : List (Int × Int)} (h : Asc l) : l.Pairwise leP := by
  refine h.imp fun {x y} z => ?_
  have z : ¬ EncO.lt y x = true := by rw [z]; decide
  rw [lt_pair, lt_int, lt_int] at z
  unfold leP
  omega
theorem asc_ints {l : List Int} (h : Asc l) : l.Pairwise (· ≤ ·) := h.imp fun {x y} z => by
  have := of_decide_eq_false (show decide (y < x) = false from z)
  omega
end DL
/-! DLc: loops by rules. -/
namespace DL
open PySem PySem.Spec PyProof.Rows L2 Enc
section
variable {α : Type} {t : Tg} {wt : WT} {we : DL.WE} {sl : DS} {Q : List Dd → MS → Prop} {M : MS}
theorem lcGo_all {f : α → Dd} {p : α → Bool} {g : α → Dd} : ∀ {xs : List α} {acc : List Dd},
    (∀ x ∈ xs, ∀ (F : Dd → MS → Prop) (G : MS → Prop), (if p x = true then F (g x) M else G M) → t.put (f x) sl fun sl1 => wt sl1 M (fun b M1 => if b = true then we sl1 M1 F X0 else G M1) X0) →
    acc.length + xs.length ≤ 90000 → Q (acc ++ (xs.filter p).map g) M → lcGo t wt we sl Q (xs.map f) acc M
  | [], acc, _, _, q => by simpa [lcGo] using q
  | x :: xs, acc, h, hl, q => by
    rw [List.map_cons, lcGo]
    refine h x List.mem_cons_self _ _ ?_
    rw [List.length_cons] at hl
    cases hp : p x with
    | true =>
      rw [if_pos rfl]
      refine ⟨by omega, lcGo_all (fun y hy => h y (List.mem_cons_of_mem _ hy)) (by rw [List.length_append, List.length_singleton]; omega) ?_⟩
      rw [List.filter_cons_of_pos hp, List.map_cons] at q
      simpa using q
    | false =>
      rw [if_neg (by decide)]
      refine lcGo_all (fun y hy => h y (List.mem_cons_of_mem _ hy)) (by omega) ?_
      rw [List.filter_cons_of_neg (by rw [hp]; decide)] at q
      exact q
theorem lcGo_map {f g : α → Dd} {xs : List α} (h : ∀ x ∈ xs, ∀ F : Dd → MS → Prop, F (g x) M → t.put (f x) sl fun sl1 => we sl1 M F X0) (hl : xs.length ≤ 90000) (q : Q (xs.map g) M) : lcGo t wYes we sl Q (xs.map f) [] M := by
  refine lcGo_all (p := fun _ => true) (g := g) (fun x hx F G hF => ?_) (by simpa using hl) (by rw [List.filter_eq_self.mpr fun _ _ => rfl]; exact q)
  rw [if_pos rfl] at hF
  refine Eq.mp ?_ (h x hx F hF)
  congr 1
theorem lcGo_inv {I : List Dd → MS → Prop} : ∀ {ds acc : List Dd} {M : MS},
    (∀ d ∈ ds, ∀ acc M (F : Dd → MS → Prop) (G : MS → Prop), I acc M → (∀ y M2, I (acc ++ [y]) M2 → F y M2) → (∀ M1, I acc M1 → G M1) → t.put d sl fun sl1 => wt sl1 M (fun b M1 => if b = true then we sl1 M1 F X0 else G M1) X0) →
    acc.length + ds.length ≤ 90000 → I acc M → (∀ acc M, I acc M → Q acc M) → lcGo t wt we sl Q ds acc M
  | [], acc, M, _, _, i, q => q acc M i
  | d :: ds, acc, M, h, hl, i, q => by
    rw [lcGo]
    rw [List.length_cons] at hl
    refine h d List.mem_cons_self acc M _ _ i (fun y M2 i2 => ⟨by omega, ?_⟩) (fun M1 i1 => ?_)
    · exact lcGo_inv (fun y hy => h y (List.mem_cons_of_mem _ hy)) (by rw [List.length_append, List.length_singleton]; omega) i2 q
    · exact lcGo_inv (fun y hy => h y (List.mem_cons_of_mem _ hy)) (by omega) i1 q
theorem forGo_inv {tb : WS} {E : DE} {I : List Dd → DS → MS → Prop} : ∀ {ds : List Dd} {sl : DS} {M : MS},
    (∀ d ds sl M (N : DS → MS → Prop), I (d :: ds) sl M → (∀ sl' M', I ds sl' M' → N sl' M') → t.put d sl fun sl1 => tb { E with nx := N, ct := N, bk := E.nx } sl1 M) →
    I ds sl M → (∀ sl M, I [] sl M → E.nx sl M) → forGo t tb E ds sl M
  | [], sl, M, _, i, q => q sl M i
  | d :: ds, sl, M, h, i, q => by
    rw [forGo]
    exact h d ds sl M _ i fun sl' M' i' => forGo_inv h i' q
theorem bls_enc {l : List α} {f : α → Bool} : gAll [.lst (l.map fun x => .bl (f x))] = some (.bl (l.all f)) := by
  show (bls (l.map fun x => .bl (f x))).map _ = _
  rw [bls_map]
  simp
theorem bls_any {l : List α} {f : α → Bool} : gAny [.lst (l.map fun x => .bl (f x))] = some (.bl (l.any f)) := by
  show (bls (l.map fun x => .bl (f x))).map _ = _
  rw [bls_map]
  simp
end
end DL
namespace DL
open PySem PySem.Spec PyProof.Rows L2 Enc
theorem iff_t {c : Bool} {A B : Prop} (h : c = true) (a : A) : if c = true then A else B := by rw [h, if_pos rfl]; exact a
theorem iff_f {c : Bool} {A B : Prop} (h : c = false) (b : B) : if c = true then A else B := by rw [h, if_neg (by decide)]; exact b
theorem iff_c {c : Bool} {A B : Prop} (a : c = true → A) (b : c = false → B) : if c = true then A else B := by
  cases c with
  | true => rw [if_pos rfl]; exact a rfl
  | false => rw [if_neg (by decide)]; exact b rfl
theorem seq_inv {I : DS → MS → Prop} {w u : WS} {E : DE} {sl : DS} {M : MS} (h : ∀ N : DS → MS → Prop, (∀ sl' M', I sl' M' → N sl' M') → w { E with nx := N } sl M) (k : ∀ sl' M', I sl' M' → u E sl' M') : wSeq w u E sl M := h (u E) k
/-- a and b, that comes out false -/
theorem and_go {sl : DS} {M : MS} {E : XD} {t u : WT} {F : Bool → MS → Prop} (h : F false M) (ht : ∃ b, (∀ G : Bool → MS → Prop, G b M → t sl M G E) ∧ (b = true → ∀ G : Bool → MS → Prop, G false M → u sl M G E)) : wAnd t u sl M F E := by
  obtain ⟨b, h1, h2⟩ := ht
  exact h1 _ (iff_c (fun e => h2 e _ h) fun _ => h)
section
variable {X : Cx} {W : WX} {we : DL.WE} {tg l : Expr}
theorem PI.or {t u : TI} (h : PI X tg l t) (k : PI X tg l u) : PI X tg l (fun σ H R => t σ H R ∨ u σ H R) := ⟨fun pins s σ H R I z => z.elim (h.run pins s σ H R I) (k.run pins s σ H R I)⟩
/-- over a list or a tuple -/
def wISq (we : DL.WE) : WA := fun sl M Q E => wIL we sl M Q E ∨ wIT we sl M Q E
theorem i_seq (hl : PE X l (low W we)) : PI X tg l (lowI W (wISq we)) :=
  PI.imp (PI.or (i_list hl) (i_tup hl)) fun σ H R ⟨sl, Hf, M, Qd, Xd, rl, w, k, kx⟩ => w.elim (fun w => .inl ⟨sl, Hf, M, Qd, Xd, rl, w, k, kx⟩) (fun w => .inr ⟨sl, Hf, M, Qd, Xd, rl, w, k, kx⟩)
end
section
variable {α : Type}
theorem atI_map {f : α → Dd} {l : List α} {i : Int} {x : α} (h0 : 0 ≤ i) (h : l[i.toNat]? = some x) : atI (l.map f) i = some (f x) := by
  obtain ⟨hl, e⟩ := List.getElem?_eq_some_iff.mp h
  unfold atI ixN
  rw [List.length_map]
  have h1 : ¬ i < 0 := by omega
  have h2 : i < (l.length : Int) := by omega
  simp only [h1, h0, h2, if_true, if_false, and_self]
  simp [h]
end
end DL
/-! DLd: rules and their text, plainly. -/
namespace DL
open PySem PySem.Spec PyProof.Rows L2 Enc TL
theorem getDat {α : Type} {l : List α} {i : Nat} {d : α} (h : i < l.length) : l.getD i d = l[i] := by simp [List.getD, h]
theorem count_once {α : Type} [DecidableEq α] {a : α} : ∀ {l : List α}, l.Nodup → a ∈ l → l.countP (fun x => decide (x = a)) = 1
  | [], _, h => by cases h
  | b :: l, hn, h => by
    rw [List.nodup_cons] at hn
    by_cases e : b = a
    · subst e
      rw [List.countP_cons_of_pos (by simp), List.countP_eq_zero.mpr fun x hx => ?_]
      simp only [decide_eq_true_eq]
      exact fun z => hn.1 (z ▸ hx)
    · rw [List.countP_cons_of_neg (by simpa using e)]
      rcases List.mem_cons.mp h with h | h
      · exact absurd h.symm e
      · exact count_once hn.2 h
def betw (lo hi t : Int) : Bool := decide (lo ≤ t) && decide (t ≤ hi)
theorem betw_iff {lo hi t : Int} : betw lo hi t = true ↔ lo ≤ t ∧ t ≤ hi := by simp [betw]
def okC (c : Int × Int) : Bool := betw 0 4 c.1 && betw 0 9 c.2
def upC (c : Case) : Bool := (List.range (c.length - 1)).all fun i => decide ((c.getD i (0, 0)).1 < (c.getD (i + 1) (0, 0)).1)
def okCase (c : Case) : Bool := c.all okC && upC c
def okRule (r : Rule) : Bool := okCase r.1 && betw 0 99 r.2
def okRules (rs : List Rule) : Bool := decide (rs.length ≤ 12) && rs.all okRule && rs.all fun r => decide (rs.countP (fun x => decide (x = r)) = 1)
theorem upC_of {c : Case} (h : c.Pairwise fun x y => x.1 < y.1) : upC c = true := by
  unfold upC
  rw [List.all_eq_true]
  intro i hi
  rw [List.mem_range] at hi
  rw [decide_eq_true_eq, getDat (by omega), getDat (by omega)]
  exact List.pairwise_iff_getElem.mp h i (i + 1) (by omega) (by omega) (by omega)
theorem upC_iff {c : Case} : upC c = true ↔ c.Pairwise fun x y => x.1 < y.1 := by
  refine ⟨fun h => ?_, upC_of⟩
  unfold upC at h
  rw [List.all_eq_true] at h
  have s : ∀ i (hi : i + 1 < c.length), c[i].1 < c[i + 1].1 := fun i hi => by
    have := h i (List.mem_range.mpr (by omega))
    rw [decide_eq_true_eq, getDat (by omega), getDat (by omega)] at this
    exact this
  refine List.pairwise_iff_getElem.mpr fun i j hi hj hij => ?_
  induction j with
  | zero => omega
  | succ j ih =>
    by_cases e : i = j
    · subst e; exact s i hj
    · exact Int.lt_trans (ih (by omega) (by omega)) (s j hj)
theorem upC_len {c : Case} (h : okCase c = true) : c.length ≤ 5 := by
  unfold okCase at h
  rw [Bool.and_eq_true, upC_iff, List.all_eq_true] at h
  obtain ⟨h1, h2⟩ := h
  have hb : ∀ i (hi : i < c.length), (i : Int) ≤ c[i].1 := by
    intro i
    induction i with
    | zero =>
      intro hi
      have := h1 _ (List.getElem_mem hi)
      simp only [okC, Bool.and_eq_true, betw_iff] at this
      omega
    | succ i ih =>
      intro hi
      have a := ih (by omega)
      have b := List.pairwise_iff_getElem.mp h2 i (i + 1) (by omega) hi (by omega)
      omega
  by_cases hl : c.length ≤ 5
  · exact hl
  · have a := hb 5 (by omega)
    have b := h1 _ (List.getElem_mem (show 5 < c.length by omega))
    simp only [okC, Bool.and_eq_true, betw_iff] at b
    omega
theorem okRules_of {rs : List Rule} (h1 : rs.length ≤ 12) (h2 : ∀ r ∈ rs, okRule r = true) (h3 : rs.Nodup) : okRules rs = true := by
  unfold okRules
  simp only [Bool.and_eq_true, decide_eq_true_eq, List.all_eq_true]
  refine ⟨⟨h1, h2⟩, fun r hr => ?_⟩
  exact count_once h3 hr
/-! ### texts -/
def condS (c : Int × Int) : Str := (Str.ofString (toString c.1) ++ Str.ofString "=") ++ Str.ofString (toString c.2)
def resS (r : Int) : Str := Str.ofString (toString r)
def wordsOf (r : Rule) : List Str := r.1.map condS ++ [Str.ofString "gives", resS r.2]
def lineOf (r : Rule) : Str := Txt.join (Str.ofString " ") (wordsOf r)
def textOf (rs : List Rule) : Str := Txt.join (Str.ofString "\n") (rs.map lineOf ++ [Str.empty])
theorem cond_dig : ∀ a b : Fin 10, tl (condS ((a.val : Int), (b.val : Int))) = [48 + a.val, 61, 48 + b.val] := by decide +kernel
theorem cond_tl {c : Int × Int} (h : okC c = true) : tl (condS c) = [48 + c.1.toNat, 61, 48 + c.2.toNat] ∧ c.1.toNat < 10 ∧ c.2.toNat < 10 ∧ 0 ≤ c.1 ∧ 0 ≤ c.2 := by
  simp only [okC, Bool.and_eq_true, betw_iff] at h
  have e := cond_dig ⟨c.1.toNat, by omega⟩ ⟨c.2.toNat, by omega⟩
  have e1 : ((c.1.toNat : Nat) : Int) = c.1 := by omega
  have e2 : ((c.2.toNat : Nat) : Int) = c.2 := by omega
  simp only [e1, e2] at e
  exact ⟨e, by omega, by omega, by omega, by omega⟩
theorem dig_int : ∀ a : Fin 10, PySem.intText? ⟨#[48 + a.val]⟩ = some (a.val : Int) := by decide +kernel
theorem dig_in : ∀ a : Fin 10, (48 + a.val) ∈ (Str.ofString "0123456789").cps.toList := by decide +kernel
def resB (n : Nat) : Bool := (tl (resS n)).all (fun c => decide (48 ≤ c ∧ c ≤ 57)) && decide (1 ≤ (tl (resS n)).length ∧ (tl (resS n)).length ≤ 2) && decide (PySem.intText? (resS n) = some (n : Int)) && !(decide ((tl (resS n)).length = 2) && decide ((tl (resS n)).head? = some 48)) && (tl (resS n)).all fun c => decide (c ∈ (Str.ofString "0123456789").cps.toList)
theorem res_all : ∀ n : Fin 100, resB n.val = true := by decide +kernel
structure ResOk (r : Int) : Prop where
  dg : ∀ c ∈ tl (resS r), 48 ≤ c ∧ c ≤ 57
  len : 1 ≤ (tl (resS r)).length ∧ (tl (resS r)).length ≤ 2
  val : PySem.intText? (resS r) = some r
  hd : (tl (resS r)).length = 2 → (tl (resS r)).head? ≠ some 48
  ins : ∀ c ∈ tl (resS r), c ∈ (Str.ofString "0123456789").cps.toList
theorem res_ok {r : Int} (h : betw 0 99 r = true) : ResOk r := by
  rw [betw_iff] at h
  have e := res_all ⟨r.toNat, by omega⟩
  have e1 : ((r.toNat : Nat) : Int) = r := by omega
  simp only [resB, e1, Bool.and_eq_true, List.all_eq_true, decide_eq_true_eq, Bool.not_eq_true', Bool.and_eq_false_iff, decide_eq_false_iff_not] at e
  obtain ⟨⟨⟨⟨a, b⟩, c⟩, d⟩, f⟩ := e
  exact ⟨a, b, c, fun z => by rcases d with d | d; exact absurd z d; exact d, f⟩
theorem words_no {r : Rule} (h : okRule r = true) : ∀ p ∈ wordsOf r, 32 ∉ tl p ∧ 10 ∉ tl p ∧ (tl p).length ≤ 5 := by
  intro p hp
  unfold okRule okCase at h
  simp only [Bool.and_eq_true, List.all_eq_true] at h
  obtain ⟨⟨h1, _⟩, h2⟩ := h
  unfold wordsOf at hp
  rw [List.mem_append, List.mem_map] at hp
  rcases hp with ⟨c, hc, rfl⟩ | hp
  · obtain ⟨e, a, b, _⟩ := cond_tl (h1 c hc)
    rw [e]
    simp only [List.mem_cons, List.not_mem_nil, or_false, not_or]
    refine ⟨⟨by omega, by omega, by omega⟩, ⟨by omega, by omega, by omega⟩, by simp⟩
  · have R := res_ok h2
    simp only [List.mem_cons, List.not_mem_nil, or_false] at hp
    rcases hp with rfl | rfl
    · decide +kernel
    · refine ⟨fun m => ?_, fun m => ?_, by have := R.len; omega⟩
      · have := R.dg _ m; omega
      · have := R.dg _ m; omega
theorem split_line {r : Rule} (h : okRule r = true) : Txt.split (lineOf r) (Str.ofString " ") = wordsOf r :=
  split_join (s := 32) (S := []) (by decide +kernel) (by decide +kernel) (by unfold wordsOf; simp) fun p hp => (words_no h p hp).1
theorem mem_joinL {S : List Nat} {x : Nat} : ∀ {ps : List (List Nat)}, x ∈ joinL S ps → x ∈ S ∨ ∃ p ∈ ps, x ∈ p
  | [], h => by cases h
  | [p], h => .inr ⟨p, List.mem_cons_self, h⟩
  | p :: q :: r, h => by
    unfold joinL at h
    rw [List.mem_append, List.mem_append] at h
    rcases h with h | h | h
    · exact .inr ⟨p, List.mem_cons_self, h⟩
    · exact .inl h
    · rcases mem_joinL h with h | ⟨z, hz, h⟩
      · exact .inl h
      · exact .inr ⟨z, List.mem_cons_of_mem _ hz, h⟩
theorem joinL_len {S : List Nat} {b : Nat} : ∀ {ps : List (List Nat)}, (∀ p ∈ ps, p.length ≤ b) → (joinL S ps).length ≤ ps.length * (b + S.length)
  | [], _ => Nat.zero_le _
  | [p], h => by
    have := h p List.mem_cons_self
    show p.length ≤ 1 * (b + S.length)
    omega
  | p :: q :: r, h => by
    have h1 := h p List.mem_cons_self
    have h2 := joinL_len (S := S) (fun z hz => h z (List.mem_cons_of_mem _ hz) : ∀ z ∈ q :: r, z.length ≤ b)
    unfold joinL
    rw [List.length_append, List.length_append, List.length_cons, Nat.add_mul]
    omega
theorem tl_line (r : Rule) : tl (lineOf r) = joinL [32] ((wordsOf r).map tl) := by
  unfold lineOf
  rw [join_eq, tl_join]
  rfl
theorem line_no {r : Rule} (h : okRule r = true) : 10 ∉ tl (lineOf r) ∧ (tl (lineOf r)).length ≤ 42 := by
  rw [tl_line]
  constructor
  · intro m
    rcases mem_joinL m with m | ⟨p, hp, m⟩
    · revert m; decide
    · obtain ⟨z, hz, rfl⟩ := List.mem_map.mp hp
      exact (words_no h z hz).2.1 m
  · have b := joinL_len (S := [32]) (b := 5) (ps := (wordsOf r).map tl) fun p hp => by
      obtain ⟨z, hz, rfl⟩ := List.mem_map.mp hp
      exact (words_no h z hz).2.2
    have l : ((wordsOf r).map tl).length ≤ 7 := by
      unfold wordsOf
      unfold okRule at h
      rw [Bool.and_eq_true] at h
      have := upC_len h.1
      simp only [List.length_map, List.length_append, List.length_cons, List.length_nil]
      omega
    simp only [List.length_cons, List.length_nil] at b
    omega
theorem split_text {rs : List Rule} (h : ∀ r ∈ rs, okRule r = true) : Txt.split (textOf rs) (Str.ofString "\n") = rs.map lineOf ++ [Str.empty] :=
  split_join (s := 10) (S := []) (by decide +kernel) (by decide +kernel) (by simp) fun p hp => by
    rw [List.mem_append, List.mem_map] at hp
    rcases hp with ⟨r, hr, rfl⟩ | hp
    · exact (line_no (h r hr)).1
    · rw [List.mem_singleton.mp hp]
      decide +kernel
theorem tl_text (rs : List Rule) : tl (textOf rs) = joinL [10] ((rs.map lineOf ++ [Str.empty]).map tl) := by
  unfold textOf
  rw [join_eq, tl_join]
  rfl
theorem joinL_snoc {S : List Nat} : ∀ {ps : List (List Nat)}, joinL S (ps ++ [[]]) = (ps.map fun p => p ++ S).flatten
  | [] => rfl
  | [p] => by simp [joinL]
  | p :: q :: r => by
    have ih := joinL_snoc (S := S) (ps := q :: r)
    show p ++ (S ++ joinL S ((q :: r) ++ [[]])) = _
    rw [ih]
    simp
theorem tl_text2 (rs : List Rule) : tl (textOf rs) = (rs.map fun r => tl (lineOf r) ++ [10]).flatten := by
  rw [tl_text, List.map_append, List.map_map]
  show joinL [10] (rs.map (tl ∘ lineOf) ++ [[]]) = _
  rw [joinL_snoc, List.map_map]
  rfl
theorem text_len {rs : List Rule} (h : ∀ r ∈ rs, okRule r = true) (hl : rs.length ≤ 12) : (textOf rs).length ≤ 1000 := by
  rw [len_tl, tl_text]
  have b := joinL_len (S := [10]) (b := 42) (ps := (rs.map lineOf ++ [Str.empty]).map tl) fun p hp => by
    obtain ⟨z, hz, rfl⟩ := List.mem_map.mp hp
    rw [List.mem_append, List.mem_map] at hz
    rcases hz with ⟨r, hr, rfl⟩ | hz
    · exact (line_no (h r hr)).2
    · rw [List.mem_singleton.mp hz]
      decide +kernel
  simp only [List.length_cons, List.length_nil, List.length_map, List.length_append] at b
  omega
end DL
/-! DLe: more of texts; methods of the text. -/
namespace DL
open PySem PySem.Spec PyProof.Rows L2 Enc TL
theorem text_nil : textOf [] = Str.ofString "" := by decide +kernel
theorem text_end {rs : List Rule} (h : rs ≠ []) : ∃ a, textOf rs = a ++ Str.ofString "\n" := by
  refine ⟨⟨((rs.dropLast.map fun r => tl (lineOf r) ++ [10]).flatten ++ tl (lineOf (rs.getLast h))).toArray⟩, ext_tl ?_⟩
  rw [tl_append, tl_text2, tl_mk]
  have e : (rs.map fun r => tl (lineOf r) ++ [10]).flatten = ((rs.dropLast ++ [rs.getLast h]).map fun r => tl (lineOf r) ++ [10]).flatten := by rw [List.dropLast_concat_getLast h]
  rw [e, List.map_append, List.flatten_append]
  have e2 : tl (Str.ofString "\n") = [10] := by decide +kernel
  rw [e2]
  simp
theorem text_ends {rs : List Rule} (h : textOf rs ≠ Str.ofString "") : Txt.endswith (textOf rs) (Str.ofString "\n") = true := by
  have h1 : rs ≠ [] := fun e => h (by rw [e]; exact text_nil)
  obtain ⟨a, e⟩ := text_end h1
  rw [e]
  exact PySem.W.KT.ends_app a _
end DL
/-! DLf: what a law's source does; loops with what is left. -/
namespace DL
open PySem PySem.Spec PyProof.Rows L2 Enc TL
/-- what stands in M stands in M' -/
def Fr (M M' : MS) : Prop := ∀ a mo, M a = some mo → M' a = some mo
/-- a source stands at p -/
def S3 (M : MS) (p : Addr) : Prop := ∃ a b c : Int, M p = some (.lst [.int a, .int b, .int c])
/-- the source at p may have changed, the rest of M stands -/
def Sh (p : Addr) (M M' : MS) : Prop := S3 M' p ∧ ∀ a mo, a ≠ p → M a = some mo → M' a = some mo
theorem Fr.refl {M : MS} : Fr M M := fun _ _ h => h
theorem Fr.trans {M M' M'' : MS} (h : Fr M M') (k : Fr M' M'') : Fr M M'' := fun a mo e => k a mo (h a mo e)
theorem Sh.refl {p : Addr} {M : MS} (h : S3 M p) : Sh p M M := ⟨h, fun _ _ _ e => e⟩
theorem Sh.trans {p : Addr} {M M' M'' : MS} (h : Sh p M M') (k : Sh p M' M'') : Sh p M M'' := ⟨k.1, fun a mo ne e => k.2 a mo ne (h.2 a mo ne e)⟩
theorem Sh.fr {p : Addr} {M M' M'' : MS} (h : Sh p M M') (k : Fr M' M'') : Sh p M M'' := by
  obtain ⟨⟨a, b, c, e⟩, h2⟩ := h
  exact ⟨⟨a, b, c, k _ _ e⟩, fun x mo ne e => k _ _ (h2 x mo ne e)⟩
theorem Fr.new {M : MS} {q : Addr} {mo : MO} (h : M q = none) : Fr M (updM M q mo) := fun a m e => by
  by_cases ea : a = q
  · subst ea; rw [h] at e; cases e
  · rw [updM_ne ea]; exact e
theorem Sh.new {p q : Addr} {M M' : MS} {mo : MO} (h : Sh p M M') (hq : M' q = none) : Sh p M (updM M' q mo) := h.fr (Fr.new hq)
/-- what is not of M may change -/
theorem Sh.upd {p q : Addr} {M M' : MS} {mo : MO} (h : Sh p M M') (hq : M q = none) (ne : q ≠ p) : Sh p M (updM M' q mo) := by
  obtain ⟨⟨a, b, c, e⟩, h2⟩ := h
  refine ⟨⟨a, b, c, by rw [updM_ne (Ne.symm ne)]; exact e⟩, fun x m nx ex => ?_⟩
  have : x ≠ q := fun z => by subst z; rw [hq] at ex; cases ex
  rw [updM_ne this]
  exact h2 x m nx ex
theorem Sh.del {p q : Addr} {M M' : MS} (h : Sh p M M') (hq : M q = none) (ne : q ≠ p) : Sh p M (delM M' q) := by
  obtain ⟨⟨a, b, c, e⟩, h2⟩ := h
  refine ⟨⟨a, b, c, by rw [delM_ne (Ne.symm ne)]; exact e⟩, fun x m nx ex => ?_⟩
  have : x ≠ q := fun z => by subst z; rw [hq] at ex; cases ex
  rw [delM_ne this]
  exact h2 x m nx ex
theorem Fr.upd {q : Addr} {M M' : MS} {mo : MO} (h : Fr M M') (hq : M q = none) : Fr M (updM M' q mo) := fun x m ex => by
  have : x ≠ q := fun z => by subst z; rw [hq] at ex; cases ex
  rw [updM_ne this]
  exact h x m ex
theorem Fr.del {q : Addr} {M M' : MS} (h : Fr M M') (hq : M q = none) : Fr M (delM M' q) := fun x m ex => by
  have : x ≠ q := fun z => by subst z; rw [hq] at ex; cases ex
  rw [delM_ne this]
  exact h x m ex
theorem S3.ne {M : MS} {p q : Addr} (h : S3 M p) (hq : M q = none) : q ≠ p := fun e => by
  obtain ⟨a, b, c, h⟩ := h
  subst e
  rw [h] at hq
  cases hq
section
variable {α : Type} {t : Tg} {wt : WT} {we : DL.WE} {sl : DS} {Q : List Dd → MS → Prop} {M : MS}
theorem lcGo_run {I : List Dd → List Dd → MS → Prop} : ∀ {ds acc : List Dd} {M : MS},
    (∀ d ds acc M (F : Dd → MS → Prop) (G : MS → Prop), I (d :: ds) acc M → (∀ y M2, I ds (acc ++ [y]) M2 → F y M2) → (∀ M1, I ds acc M1 → G M1) → t.put d sl fun sl1 => wt sl1 M (fun b M1 => if b = true then we sl1 M1 F X0 else G M1) X0) →
    acc.length + ds.length ≤ 90000 → I ds acc M → (∀ acc M, I [] acc M → Q acc M) → lcGo t wt we sl Q ds acc M
  | [], acc, M, _, _, i, q => q acc M i
  | d :: ds, acc, M, h, hl, i, q => by
    rw [lcGo]
    rw [List.length_cons] at hl
    refine h d ds acc M _ _ i (fun y M2 i2 => ⟨by omega, ?_⟩) (fun M1 i1 => ?_)
    · exact lcGo_run h (by rw [List.length_append, List.length_singleton]; omega) i2 q
    · exact lcGo_run h (by omega) i1 q
end
end DL
/-! DLg: cases and rules, plainly; lists as data. -/
namespace DL
open PySem PySem.Spec PyProof.Rows L2 Enc TL
theorem g_mul {i j : Int} (h : (-(2 ^ 64) < i ∧ i < 2 ^ 64) ∨ (-(2 ^ 64) < j ∧ j < 2 ^ 64)) : gMul (.int i) (.int j) = some (.int (i * j)) := if_pos h
theorem g_mod {i j : Int} (h : 0 < j) : gMod (.int i) (.int j) = some (.int (i % j)) := if_pos h
theorem g_div {i j : Int} (h : 0 < j ∧ j < 1073741824) : gDiv (.int i) (.int j) = some (.int (i / j)) := if_pos h
theorem g_pow {i j : Int} (h : 0 ≤ j ∧ j ≤ 1000000 ∧ i.natAbs < 2 ^ 64) : gPow (.int i) (.int j) = some (.int (i ^ j.toNat)) := if_pos h
theorem der_at {M : MS} {p : Addr} {mo : MO} (h : M p = some mo) : der M (.raw (.ref p)) = mo.dd := by simp only [der, h]
theorem Sh.src {M : MS} {p : Addr} (a b c : Int) : Sh p M (updM M p (.lst [.int a, .int b, .int c])) := ⟨⟨a, b, c, updM_same⟩, fun x mo ne e => by rw [updM_ne ne]; exact e⟩
theorem gEqB_nil {α : Type} [Enc α] {f : Bool → Bool} (hd : deep α ≤ 62) (l : List α) : gEqB f (.lst (l.map enc)) (.lst []) = some (.bl (f l.isEmpty)) := by
  unfold gEqB
  have e : py (.lst (l.map enc)) = some (.list (l.map pe)) := by simp [py, pyAll_enc]
  have h := depthAll_enc l
  rw [e]
  show (if (PyData.depth (.list (l.map pe))) ≤ 64 then some (Dd.bl (f (PyData.eqv (.list (l.map pe)) (.list [])))) else none) = _
  rw [if_pos (by simp only [PyData.depth]; omega)]
  cases l <;> simp [PyData.eqv, PyData.eqvAll]
theorem gEqB_int {f : Bool → Bool} (i j : Int) : gEqB f (.int i) (.int j) = some (.bl (f (decide (i = j)))) := by
  have := gEqB_enc (α := Int) (f := f) (by decide) i j
  exact this
/-- the attributes ascend -/
abbrev Up (c : Case) : Prop := c.Pairwise fun x y => x.1 < y.1
abbrev InB (v : Int) (c : Case) : Prop := ∀ x ∈ c, 0 ≤ x.1 ∧ x.1 ≤ 4 ∧ 0 ≤ x.2 ∧ x.2 < v
theorem okCase_of {c : Case} {v : Int} (h1 : InB v c) (hv : v ≤ 10) (h2 : Up c) : okCase c = true := by
  unfold okCase
  rw [Bool.and_eq_true, List.all_eq_true]
  refine ⟨fun x hx => ?_, upC_of h2⟩
  have := h1 x hx
  unfold okC
  rw [Bool.and_eq_true, betw_iff, betw_iff]
  omega
theorem Up.nodup {c : Case} (h : Up c) : (c.map (·.1)).Nodup := by
  rw [List.Nodup, List.pairwise_map]
  exact h.imp fun h => by omega
/-- sorted, no attribute twice -/
theorem up_sorted {ps qs : Case} (hp : qs.Perm ps) (hs : qs.Pairwise leP) (hn : (ps.map (·.1)).Nodup) : Up qs := by
  have hq : (qs.map (·.1)).Nodup := (hp.map _).nodup_iff.mpr hn
  rw [List.Nodup, List.pairwise_map] at hq
  refine (hs.and hq).imp fun {x y} h => ?_
  unfold leP at h
  omega
theorem inB_up_len {c : Case} {v : Int} (h1 : InB v c) (hv : v ≤ 10) (h2 : Up c) : c.length ≤ 5 := upC_len (okCase_of h1 hv h2)
abbrev GoodR (v : Int) (n : Int) (r : Rule) : Prop := InB v r.1 ∧ Up r.1 ∧ 0 ≤ r.2 ∧ r.2 < n
theorem GoodR.ok {v n : Int} {r : Rule} (h : GoodR v n r) (hv : v ≤ 10) (hn : n ≤ 100) : okRule r = true := by
  unfold okRule
  rw [Bool.and_eq_true, betw_iff]
  exact ⟨okCase_of h.1 hv h.2.1, by have := h.2.2; omega⟩
theorem GoodR.len {v n : Int} {r : Rule} (h : GoodR v n r) (hv : v ≤ 10) : r.1.length ≤ 5 := inB_up_len h.1 hv h.2.1
theorem rng_cons {lo : Int} {n : Nat} {d : Dd} {ds : List Dd} (h : d :: ds = rng lo (n + 1)) : d = .int lo ∧ ds = rng (lo + 1) n := by
  unfold rng at h ⊢
  rw [List.range_succ_eq_map] at h
  simp only [List.map_cons, List.map_map, List.cons.injEq] at h
  refine ⟨by rw [h.1]; simp, ?_⟩
  rw [h.2]
  refine List.map_congr_left fun i _ => ?_
  show Dd.int (lo + ((i + 1 : Nat) : Int)) = Dd.int (lo + 1 + (i : Int))
  congr 1
  omega
theorem joinL_nil : ∀ ps : List (List Nat), joinL [] ps = ps.flatten
  | [] => rfl
  | [p] => by simp [joinL]
  | p :: q :: r => by
    have ih := joinL_nil (q :: r)
    show p ++ ([] ++ joinL [] (q :: r)) = _
    rw [ih]
    simp
theorem str_small {i : Int} (h0 : 0 ≤ i) (h1 : i < 1000000) : gStr [.int i] = some (.str (Str.ofString (toString i))) := by
  simp only [gStr]
  rw [if_pos (by omega)]
theorem g_cat {a b : Str} (h : a.length + b.length ≤ 1000000) : gAdd (.str a) (.str b) = some (.str (a ++ b)) := if_pos h
theorem g_join {a : Str} {ys : List Str} (h : (ys.map (·.length)).sum + ys.length * a.length ≤ 1000000) : gJoin (.str a) (.lst (ys.map Dd.str)) = some (.str (Txt.join a ys)) := by
  simp only [gJoin, strsD_map, Option.bind_some]
  rw [if_pos h]
theorem sum_le {l : List Nat} {b : Nat} (h : ∀ x ∈ l, x ≤ b) : l.sum ≤ l.length * b := by
  induction l with
  | nil => simp
  | cons x l ih =>
    have h1 := h x List.mem_cons_self
    have h2 := ih fun y hy => h y (List.mem_cons_of_mem _ hy)
    rw [List.sum_cons, List.length_cons, Nat.add_mul]
    omega
theorem words_sum {r : Rule} (h : okRule r = true) : ((wordsOf r).map (·.length)).sum + (wordsOf r).length * (Str.ofString " ").length ≤ 1000 := by
  have hl : (wordsOf r).length ≤ 7 := by
    unfold DL.wordsOf
    unfold okRule at h
    rw [Bool.and_eq_true] at h
    have := upC_len h.1
    simp
    omega
  have hs := sum_le (l := (wordsOf r).map (·.length)) (b := 5) fun x hx => by
    obtain ⟨z, hz, rfl⟩ := List.mem_map.mp hx
    rw [len_tl]
    exact (words_no h z hz).2.2
  rw [List.length_map] at hs
  have e : (Str.ofString " ").length = 1 := by decide +kernel
  rw [e]
  omega
theorem text_join {rs : List Rule} (h : ∀ r ∈ rs, okRule r = true) (h12 : rs.length ≤ 12) : gJoin (.str (Str.ofString "")) (.lst (rs.map fun z => .str (lineOf z ++ Str.ofString "\n"))) = some (.str (textOf rs)) := by
  have e : (rs.map fun z => Dd.str (lineOf z ++ Str.ofString "\n")) = (rs.map fun z => lineOf z ++ Str.ofString "\n").map Dd.str := by rw [List.map_map]; rfl
  have en : tl (Str.ofString "\n") = [10] := by decide +kernel
  have hs := sum_le (l := (rs.map fun z => lineOf z ++ Str.ofString "\n").map (·.length)) (b := 43) fun x hx => by
    obtain ⟨y, hy, rfl⟩ := List.mem_map.mp hx
    obtain ⟨z, hz, rfl⟩ := List.mem_map.mp hy
    rw [len_tl, tl_append, List.length_append, en]
    have := (line_no (h z hz)).2
    simp
    omega
  rw [List.length_map, List.length_map] at hs
  rw [e, g_join]
  · congr 2
    apply ext_tl
    rw [join_eq, tl_join, tl_text2]
    have ee : tl (Str.ofString "") = [] := by decide +kernel
    rw [ee, joinL_nil, List.map_map]
    congr 1
    refine List.map_congr_left fun z _ => ?_
    show tl (lineOf z ++ Str.ofString "\n") = _
    rw [tl_append, en]
  · have e0 : (Str.ofString "").length = 0 := by decide +kernel
    rw [e0]
    omega
theorem InB.mono {v u : Int} {c : Case} (h : InB v c) (hv : v ≤ u) : InB u c := fun x hx => by have := h x hx; omega
theorem InB.sub {v : Int} {c d : Case} (h : InB v c) (hs : d.Sublist c) : InB v d := fun x hx => h x (hs.subset hx)
/-- two cases put together: the one's attributes kept -/
theorem merge_ok {v : Int} {a b qs : Case} (ha : InB v a) (hb : InB v b) (ua : Up a) (ub : Up b) (hp : qs.Perm (a ++ b.filter fun x => !decide (x.1 ∈ a.map (·.1)))) (hs : qs.Pairwise leP) : InB v qs ∧ Up qs := by
  constructor
  · intro x hx
    have := hp.mem_iff.mp hx
    rw [List.mem_append, List.mem_filter] at this
    rcases this with h | h
    · exact ha x h
    · exact hb x h.1
  · refine up_sorted hp hs ?_
    rw [List.map_append, List.nodup_append]
    refine ⟨ua.nodup, (Up.nodup (c := b.filter _) (ub.sublist List.filter_sublist)), fun x hx y hy e => ?_⟩
    subst e
    obtain ⟨z, hz, rfl⟩ := List.mem_map.mp hy
    have := (List.mem_filter.mp hz).2
    simp only [Bool.not_eq_true', decide_eq_false_iff_not] at this
    exact this hx
theorem put_nm {i : Nat} {d : Dd} {sl : DS} {Q : DS → Prop} (h : Q (sl.set i (some d))) : (Tg.nm i).put d sl Q := h
theorem rng_zero (n : Nat) : rng 0 n = (List.range n).map fun (i : Nat) => Dd.int (0 + (i : Int)) := rfl
end DL
/-! DLh: the script; texts of results. -/
namespace DL
open PySem PySem.Spec PyProof.Rows L2 Enc TL
section
variable {X : Cx} {W : WX} {a b e : Expr} {pos p2 : Pos} {wa wb we : DL.WE}
/-- isinstance(e, C): the class is not looked into -/
def derH (M : MS) : List Dd → List Dd
  | [d, c] => [der M d, c]
  | ds => ds
def wIsi (K : PySem.W.Frag) (cs : List Addr) (wr : WA) : DL.WE := fun sl M Q E => wr sl M (fun ds M1 => ∃ z, gIsi K cs (derH M1 ds) = some z ∧ Q z M1) E
theorem d_isi {K : PySem.W.Frag} {cs : List Addr} {p : Pos} {wr : WA} (hK : X.K = K) (hcs : ∀ C ∈ cs, IsiC K C) (hg : Gl X "isinstance") (hm : X.mg "isinstance" = none) (ha : PA X [a, b] (lowA W wr))
    (he : starEach [a, b] X.env = (false, eval a X.env) :: starEach [b] X.env := by rfl) (hpl : (backTo pos (starEach [b] X.env)).any (·.1) = false := by rfl) : PE X (.Call (.Name "isinstance" p) [a, b] [] pos) (low W (wIsi K cs wr)) := by
  subst hK
  obtain ⟨r, o, kk⟩ := c_isi (X := X) hcs
  refine PE.imp (pe_callB o hg hm (by kernel_rfl) ha (by decide) (by decide) he hpl) fun σ H Q ⟨sl, Hf, M, Qd, Xd, rl, w, k, kx⟩ => ⟨sl, Hf, M, _, Xd, rl, w, fun ds Hf1 M1 vs H1 s1 r1 ⟨z, hz, q⟩ => ?_, kx⟩
  have rt : RepTs Hf1 M1 H1 vs (derH M1 ds) := by
    cases r1 with
    | nil => exact .nil
    | cons h1 r1 =>
      cases r1 with
      | nil => exact .cons (.fz h1) .nil
      | cons h2 r1 =>
        cases r1 with
        | nil => exact .cons (RepT.of s1.wd h1) (.cons (.fz h2) .nil)
        | cons h3 r3 =>
          have all : ∀ {vs : List V} {ds : List Dd}, RepAll Hf1 vs ds → RepTs Hf1 M1 H1 vs ds := fun {vs ds} r => by
            induction ds generalizing vs with
            | nil => cases r; exact .nil
            | cons d ds ih => cases r with | cons h r => exact .cons (.fz h) (ih r)
          exact .cons (.fz h1) (.cons (.fz h2) (.cons (.fz h3) (all r3)))
  exact kk Hf1 M1 H1 vs _ z _ s1.wd rt hz fun v' Hf' H' sm rz => k z Hf' M1 v' H' (s1.trans (Stp.grow s1.wd sm)) rz q
/-- len(script) -/
def wLenS (K : PySem.W.Frag) (wr : WA) : DL.WE := fun sl M Q E => wr sl M (fun ds M1 => ∃ ns : List Int, ds = [.scr K ns] ∧ Q (.int ns.length) M1) E
theorem d_lenS {K : PySem.W.Frag} {p : Pos} {wr : WA} (hK : X.K = K) (hg : Gl X "len") (hm : X.mg "len" = none) (ha : PA X [e] (lowA W wr))
    (he : starEach [e] X.env = (false, eval e X.env) :: starEach [] X.env := by rfl) (hpl : (backTo pos (starEach [] X.env)).any (·.1) = false := by rfl) : PE X (.Call (.Name "len" p) [e] [] pos) (low W (wLenS K wr)) := by
  subst hK
  refine PE.imp (pe_callB call_len hg hm (by kernel_rfl) ha (by decide) (by decide) he hpl) fun σ H Q ⟨sl, Hf, M, Qd, Xd, rl, w, k, kx⟩ => ⟨sl, Hf, M, _, Xd, rl, w, fun ds Hf1 M1 vs H1 s1 r1 w1 => ?_, kx⟩
  obtain ⟨ns, rfl, q⟩ := w1
  cases r1 with
  | cons h r =>
    cases r
    cases h with
    | @scr a _ _ hs => exact ⟨.ref a, _, rfl, .inl ⟨_, sqL_mono s1.wd.le hs, rfl⟩, by rw [List.length_map]; exact k _ Hf1 M1 _ H1 s1 (.int _) q⟩
/-- script[i] -/
def wIxS (K : PySem.W.Frag) (wa wb : DL.WE) : DL.WE := fun sl M Q E => wa sl M (fun d M1 => wb sl M1 (fun e M2 => ∃ (ns : List Int) (i n : Int), d = .scr K ns ∧ e = .int i ∧ atI ns i = some n ∧ Q (.int n) M2) E) E
theorem d_ixS {K : PySem.W.Frag} (hK : X.K = K) (ha : PE X a (low W wa)) (hb : PE X b (low W wb)) (hs : PlainIx b) : PE X (.Subscript a b pos) (low W (wIxS K wa wb)) := by
  subst hK
  refine PE.imp (pe_ix ix_list ha hb hs) fun σ H Q ⟨sl, Hf, M, Qd, Xd, rl, w, k, kx⟩ => ⟨sl, Hf, M, _, Xd, rl, w, fun d Hf1 M1 v H1 s1 r1 w1 => ?_, kx⟩
  refine ⟨sl, Hf1, M1, _, Xd, rl.step s1, w1, fun e Hf2 M2 u H2 s2 r2 w2 => ?_, fun c Hf2 M2 H2 s2 hx => kx c Hf2 M2 H2 (s1.trans s2) hx⟩
  obtain ⟨ns, i, n, rfl, rfl, hi, q⟩ := w2
  cases r1 with
  | @scr a _ _ hs =>
    cases r2
    refine ⟨a, _, i, .int n, rfl, rfl, sqL_mono s2.wd.le (sqL_mono s2.up hs), ?_, k _ Hf2 M2 _ H2 (s1.trans s2) (.int _) q⟩
    unfold atI at hi ⊢
    rw [List.length_map]
    cases hj : ixN ns.length i with
    | none => rw [hj] at hi; cases hi
    | some j =>
      rw [hj] at hi
      show (ns.map V.int)[j]? = _
      rw [List.getElem?_map, show ns[j]? = some n from hi]
      rfl
end
theorem atI_of {ns : List Int} {i : Int} (h0 : 0 ≤ i) (h : i < ns.length) : ∃ n, atI ns i = some n := by
  refine ⟨ns[i.toNat]'(by omega), ?_⟩
  unfold atI ixN
  rw [if_pos h0, if_pos h]
  exact List.getElem?_eq_getElem _
theorem S3.upd {M : MS} {p q : Addr} {mo : MO} (h : S3 M p) (ne : q ≠ p) : S3 (updM M q mo) p := by
  obtain ⟨a, b, c, e⟩ := h
  exact ⟨a, b, c, by rw [updM_ne (Ne.symm ne)]; exact e⟩
theorem S3.del {M : MS} {p q : Addr} (h : S3 M p) (ne : q ≠ p) : S3 (delM M q) p := by
  obtain ⟨a, b, c, e⟩ := h
  exact ⟨a, b, c, by rw [delM_ne (Ne.symm ne)]; exact e⟩
/-! ### texts of results -/
def optI : Option Int → Dd
  | some i => .int i
  | none => .non
def optP : Option Int → PyData
  | some i => .int i
  | none => .none
theorem py_opt (o : Option Int) : py (optI o) = some (optP o) := by cases o <;> rfl
def SmallI (i : Int) : Prop := 0 ≤ i ∧ i < 100
theorem short_int {i : Int} (h : SmallI i) : PyData.leavesShort 8 (.int i) = true ∧ PyData.showable (.int i) = true ∧ PyData.weight (.int i) ≤ 7 := by
  obtain ⟨h0, h1⟩ := h
  have R := res_ok (r := i) (by rw [betw_iff]; omega)
  have e : PyData.shown (.int i) = resS i := rfl
  have hlg : i.natAbs.log2 < 7 := by
    by_cases z : i.natAbs = 0
    · rw [z]; decide
    · exact (Nat.log2_lt z).mpr (by omega)
  refine ⟨?_, ?_, ?_⟩
  · simp only [PyData.leavesShort, e, len_tl, decide_eq_true_eq]
    have := R.len
    omega
  · simp only [PyData.showable, decide_eq_true_eq]
    omega
  · simp only [PyData.weight]
    split <;> omega
theorem repr_of {d : Dd} {p : PyData} (hd : (∃ l, d = .lst l) ∨ ∃ l, d = .tup l) (hp : py d = some p) (h1 : p.leavesShort 8 = true) (h2 : p.showable = true) (h3 : p.depth ≤ 64) (h4 : p.weight ≤ 10000) : ∃ z, gRepr [d] = some (.str z) := by
  have hl := PyData.shown_le 8 (Nat.le_refl _) p h1
  refine ⟨p.shown, ?_⟩
  have e : ((py d).bind fun p => if p.showable = true ∧ p.depth ≤ 64 ∧ p.shown.length ≤ 1000000 then some (Dd.str p.shown) else none) = some (.str p.shown) := by
    rw [hp, Option.bind_some, if_pos ⟨h2, h3, by omega⟩]
  rcases hd with ⟨l, rfl⟩ | ⟨l, rfl⟩
  · exact e
  · exact e
theorem repr_two {o : Option Int} (h : ∀ i, o = some i → SmallI i) : ∃ z, gRepr [.lst [optI o, optI o]] = some (.str z) := by
  cases o with
  | none => exact repr_of (.inl ⟨_, rfl⟩) (p := .list [.none, .none]) rfl rfl rfl (by decide) (by decide)
  | some i =>
    obtain ⟨a, b, c⟩ := short_int (h i rfl)
    refine repr_of (.inl ⟨_, rfl⟩) (p := .list [.int i, .int i]) rfl ?_ ?_ (by simp [PyData.depth, PyData.depthAll]) ?_
    · simp only [PyData.leavesShort, PyData.leavesShortAll, Bool.and_true] at a ⊢
      rw [a]; rfl
    · simp only [PyData.showable, PyData.showableAll, Bool.and_true] at b ⊢
      rw [b]; rfl
    · simp only [PyData.weight, PyData.weightAll] at c ⊢
      omega
/-- encoded lists: each short -/
theorem leaves_enc {α : Type} [Enc α] {l : List α} (h : ∀ a ∈ l, (pe a).leavesShort 8 = true) : PyData.leavesShortAll 8 (l.map pe) = true := by
  induction l with
  | nil => rfl
  | cons a l ih =>
    rw [List.map_cons, PyData.leavesShortAll, h a List.mem_cons_self, ih fun x hx => h x (List.mem_cons_of_mem _ hx)]
    rfl
theorem show_enc {α : Type} [Enc α] {l : List α} (h : ∀ a ∈ l, (pe a).showable = true) : PyData.showableAll (l.map pe) = true := by
  induction l with
  | nil => rfl
  | cons a l ih =>
    rw [List.map_cons, PyData.showableAll, h a List.mem_cons_self, ih fun x hx => h x (List.mem_cons_of_mem _ hx)]
    rfl
theorem weight_enc {α : Type} [Enc α] {l : List α} {b : Nat} (h : ∀ a ∈ l, (pe a).weight ≤ b) : PyData.weightAll (l.map pe) ≤ l.length * (b + 1) := by
  induction l with
  | nil => simp [PyData.weightAll]
  | cons a l ih =>
    have h1 := h a List.mem_cons_self
    have h2 := ih fun x hx => h x (List.mem_cons_of_mem _ hx)
    rw [List.map_cons, PyData.weightAll, List.length_cons, Nat.add_mul]
    omega
theorem short_pair {x : Int × Int} (h1 : SmallI x.1) (h2 : SmallI x.2) : (pe x).leavesShort 8 = true ∧ (pe x).showable = true ∧ (pe x).weight ≤ 16 := by
  obtain ⟨a, b, c⟩ := short_int h1
  obtain ⟨a', b', c'⟩ := short_int h2
  have e : pe x = .tuple [.int x.1, .int x.2] := rfl
  rw [e]
  refine ⟨?_, ?_, ?_⟩
  · rw [PyData.leavesShort, PyData.leavesShortAll, PyData.leavesShortAll, PyData.leavesShortAll, a, a']; rfl
  · rw [PyData.showable, PyData.showableAll, PyData.showableAll, PyData.showableAll, b, b']; rfl
  · rw [PyData.weight, PyData.weightAll, PyData.weightAll, PyData.weightAll]; omega
theorem short_case {c : Case} (h : ∀ x ∈ c, SmallI x.1 ∧ SmallI x.2) (hl : c.length ≤ 5) : (pe c).leavesShort 8 = true ∧ (pe c).showable = true ∧ (pe c).weight ≤ 85 := by
  have e : pe c = .tuple (c.map pe) := rfl
  rw [e]
  refine ⟨?_, ?_, ?_⟩
  · rw [PyData.leavesShort]; exact leaves_enc fun x hx => (short_pair (h x hx).1 (h x hx).2).1
  · rw [PyData.showable]; exact show_enc fun x hx => (short_pair (h x hx).1 (h x hx).2).2.1
  · rw [PyData.weight]
    have := weight_enc (l := c) (b := 16) fun x hx => (short_pair (h x hx).1 (h x hx).2).2.2
    omega
theorem short_rule {r : Rule} (h : okRule r = true) : (pe r).leavesShort 8 = true ∧ (pe r).showable = true ∧ (pe r).weight ≤ 94 := by
  unfold okRule at h
  rw [Bool.and_eq_true, betw_iff] at h
  have hl := upC_len h.1
  have hc := h.1
  unfold okCase at hc
  rw [Bool.and_eq_true, List.all_eq_true] at hc
  obtain ⟨a, b, c⟩ := short_case (c := r.1) (fun x hx => by
    have := hc.1 x hx
    unfold okC at this
    rw [Bool.and_eq_true, betw_iff, betw_iff] at this
    exact ⟨⟨by omega, by omega⟩, ⟨by omega, by omega⟩⟩) hl
  obtain ⟨a', b', c'⟩ := short_int (i := r.2) ⟨by omega, by omega⟩
  have e : pe r = .tuple [pe r.1, .int r.2] := rfl
  rw [e]
  refine ⟨?_, ?_, ?_⟩
  · rw [PyData.leavesShort, PyData.leavesShortAll, PyData.leavesShortAll, PyData.leavesShortAll, a, a']; rfl
  · rw [PyData.showable, PyData.showableAll, PyData.showableAll, PyData.showableAll, b, b']; rfl
  · rw [PyData.weight, PyData.weightAll, PyData.weightAll, PyData.weightAll]; omega
theorem repr_rules {rs : List Rule} (h : ∀ r ∈ rs, okRule r = true) (h12 : rs.length ≤ 12) : ∃ z, gRepr [.tup (rs.map enc)] = some (.str z) := by
  refine repr_of (.inr ⟨_, rfl⟩) (p := .tuple (rs.map pe)) (by simp [py, pyAll_enc]) ?_ ?_ ?_ ?_
  · rw [PyData.leavesShort]; exact leaves_enc fun r hr => (short_rule (h r hr)).1
  · rw [PyData.showable]; exact show_enc fun r hr => (short_rule (h r hr)).2.1
  · have := depthAll_enc rs
    have e : deep Rule = 3 := by decide
    rw [PyData.depth]
    omega
  · rw [PyData.weight]
    have := weight_enc (l := rs) (b := 94) fun r hr => (short_rule (h r hr)).2.2
    omega
end DL
/-! DLi: facts by checks, a law's end. -/
namespace DL
open PySem PySem.Spec PyProof.Rows L2
/-! ### facts by checks -/
abbrev Ck := PySem.W.Frag → Bool
def seeC (cks : List Ck) (fn : List He5.DefA) (K : PySem.W.Frag) : He.AlD := (cks.all (fun c => c K) && fn.all (fun d => d.ok K), fn.map fun d => He5.fnA K (d.at_ K))
def SaysC (cks : List Ck) (fn : List He5.DefA) (K : PySem.W.Frag) : Prop := seeC cks fn K = He5.valA fn
def seeG (n : Nat) (cks : List Ck) (fn : List He5.DefA) (g : Addr → Option Obj) : He.AlD := seeC cks fn (He.frG g (He5.asA g n))
def hookC (n : Nat) (cks : List Ck) (fn : List He5.DefA) : PySem.W.Hook where
  α := He.AlD
  obs s := seeG n cks fn s.heap.get?
  val _ := He5.valA fn
  says _ h := ∃ K : PySem.W.Frag, K.In h ∧ SaysC cks fn K
  of _ _ e := ⟨_, He.frG_in, e⟩
  keeps _ _ _ := fun ⟨K, hK, c⟩ k => ⟨K, PySem.W.Frag.In.keeps hK k, c⟩
theorem seeG_eq {n : Nat} {cks : List Ck} {fn : List He5.DefA} {g : Addr → Option Obj} {s : Shared} (h : ∀ a, g a = s.heap.get? a) : seeG n cks fn g = (hookC n cks fn).obs s := by
  cases (funext h : g = s.heap.get?)
  rfl
section
variable {cks : List Ck} {fn : List He5.DefA} {K : PySem.W.Frag}
theorem SaysC.both (c : SaysC cks fn K) : cks.all (fun c => c K) = true ∧ fn.all (fun d => d.ok K) = true := He.ba (congrArg Prod.fst c)
theorem SaysC.ck (c : SaysC cks fn K) (i : Nat) {f : Ck} (h : cks[i]? = some f := by rfl) : f K = true := List.all_eq_true.mp c.both.1 f (List.mem_of_getElem? h)
theorem SaysC.df (c : SaysC cks fn K) (i : Nat) {d : He5.DefA} (h : fn[i]? = some d := by rfl) : ∃ fd, FunD K d.name d.qual d.params d.body d.scope (d.dvs K) (d.kws K) (d.at_ K) fd := by
  have e : (fn.map fun d => He5.fnA K (d.at_ K))[i]? = (fn.map He5.DefA.val)[i]? := by rw [show fn.map (fun d => He5.fnA K (d.at_ K)) = fn.map He5.DefA.val from congrArg Prod.snd c]
  simp only [List.getElem?_map, h, Option.map_some] at e
  exact He5.DefA.funD (Option.some.inj e) (List.all_eq_true.mp c.both.2 d (List.mem_of_getElem? h))
end
/-! ### checks -/
def ckC (C : PySem.W.Frag → Addr) (K : PySem.W.Frag) : Bool := PySem.W.plainGet K (C K) Str.empty && PySem.W.hasDictIn K (C K) && PySem.W.plainOver K (C K) && He.eqO (PySem.W.findIn K (.ref (C K)) "__setattr__") (some (some (.builtin "object.__setattr__")))
theorem ckC_ok {C : PySem.W.Frag → Addr} {K : PySem.W.Frag} (h : ckC C K = true) : Cls K (C K) := by
  simp only [ckC, Bool.and_eq_true] at h
  exact ⟨h.1.1.1, h.1.1.2, h.1.2, He.eqO_ok h.2⟩
def ckI (C : PySem.W.Frag → Addr) (K : PySem.W.Frag) : Bool := ckC C K && He.eqO (PySem.W.findIn K (.ref (C K)) "__class__") (some (some (.builtin "object.__class__"))) && He.eqO (PySem.W.specialIn K (.builtin "object.__class__") "__get__") (some (some (.builtin "getset_descriptor.__get__"))) &&
  decide (PySem.W.takesIn K (.builtin "object.__class__") = some true) && decide (PySem.W.mroIn K (C K) (.type "object") = some true)
theorem ckI_ok {C : PySem.W.Frag → Addr} {K : PySem.W.Frag} (h : ckI C K = true) : IsiC K (C K) := by
  simp only [ckI, Bool.and_eq_true, decide_eq_true_eq] at h
  exact ⟨ckC_ok h.1.1.1.1, He.eqO_ok h.1.1.1.2, He.eqO_ok h.1.1.2, h.1.2, h.2⟩
def ckN (C : PySem.W.Frag → Addr) (f : Str) (K : PySem.W.Frag) : Bool := He.eqO (PySem.W.findIn K (.ref (C K)) f) (some none)
theorem ckN_ok {C : PySem.W.Frag → Addr} {f : Str} {K : PySem.W.Frag} (h : ckN C f K = true) : NoAttr K (C K) f := He.eqO_ok h
def ckM (C g : PySem.W.Frag → Addr) (K : PySem.W.Frag) : Bool := PySem.W.makesIn K (C K) && He.eqO (PySem.W.findIn K (.ref (C K)) "__init__") (some (some (.ref (g K)))) && PySem.W.isFn K (.ref (g K)) && PySem.W.keepIn K (.ref (C K))
theorem ckM_ok {C g : PySem.W.Frag → Addr} {K : PySem.W.Frag} (h : ckM C g K = true) : Mk K (C K) (g K) := by
  simp only [ckM, Bool.and_eq_true] at h
  exact ⟨h.1.1.1, He.eqO_ok h.1.1.2, h.1.2, h.2⟩
def ckX (x : Str) (K : PySem.W.Frag) : Bool := (He.Fa.glo x).ok K && PySem.W.excIn K (He.ga K x) PySem.HandSPX.veTail "ValueError.__new__" && PySem.W.keepIn K (.ref (He.ga K x)) && decide (PySem.W.subIn K (.ref (He.ga K x)) (.type "BaseException") = some true) && decide (PySem.W.typeIn K (.ref (He.ga K x)) = some (.type "type"))
theorem ckX_ok {x : Str} {K : PySem.W.Frag} {h : Heap} {mg : Str → Option Value} (X : K.In h) (G : h.Ns mainGlobals mg) (c : ckX x K = true) : ExcK K mg x (He.ga K x) := by
  simp only [ckX, Bool.and_eq_true, decide_eq_true_eq] at c
  exact ⟨He.glo_ok X G c.1.1.1.1, c.1.1.1.2, c.1.1.2, c.1.2, c.2⟩
def ckR (C : PySem.W.Frag → Addr) (K : PySem.W.Frag) : Bool := PySem.W.readsIn K (C K) (.type "type") && He.eqO (PySem.W.specialIn K (.ref (C K)) "__getattribute__") (some (some (.builtin "type.__getattribute__")))
theorem ckR_ok {C : PySem.W.Frag → Addr} {K : PySem.W.Frag} (h : ckR C K = true) : ClX.CRead K (C K) (.type "type") := by
  simp only [ckR, Bool.and_eq_true] at h
  exact ⟨h.1, He.eqO_ok h.2⟩
/-- the first field of a record -/
def recA (t : String) (K : PySem.W.Frag) (p : Addr) : Addr := match PySem.W.recIn K p t with
  | some (.ref g :: _) => g
  | _ => 0
def recB (t : String) (K : PySem.W.Frag) (p : Addr) : Bool := match PySem.W.recIn K p t with
  | some (.ref _ :: _) => true
  | _ => false
theorem rec_ok {t : String} {K : PySem.W.Frag} {p : Addr} (h : recB t K p = true) : ∃ rest, PySem.W.recIn K p t = some (.ref (recA t K p) :: rest) := by
  unfold recB at h
  unfold recA
  split at h
  · rename_i g rest e
    rw [e]
    exact ⟨rest, rfl⟩
  · cases h
def getB (x : Option PySem.W.CFound) (b : Value) (p C : Addr) : Bool := match x with
  | some (.get u v .none y) => decide (u = b ∧ v = .ref p ∧ y = .ref C)
  | _ => false
theorem getB_ok {x : Option PySem.W.CFound} {b : Value} {p C : Addr} (h : getB x b p C = true) : x = some (.get b (.ref p) .none (.ref C)) := by
  unfold getB at h
  split at h
  · obtain ⟨rfl, rfl, rfl⟩ := of_decide_eq_true h
    rfl
  · cases h
def ckCM (C p : PySem.W.Frag → Addr) (m : Str) (K : PySem.W.Frag) : Bool := getB (PySem.W.findCls K (.ref (C K)) (.type "type") m) (.builtin "classmethod.__get__") (p K) (C K) && recB "classmethod" K (p K) && PySem.W.fnIn K (recA "classmethod" K (p K))
theorem ckCM_ok {C p : PySem.W.Frag → Addr} {m : Str} {K : PySem.W.Frag} (h : ckCM C p m K = true) : ClX.CMet K (C K) (.type "type") m (p K) (recA "classmethod" K (p K)) := by
  simp only [ckCM, Bool.and_eq_true] at h
  exact ⟨getB_ok h.1.1, rec_ok h.1.2, h.2⟩
def ckP (C p : PySem.W.Frag → Addr) (f : Str) (K : PySem.W.Frag) : Bool := He.eqO (PySem.W.findIn K (.ref (C K)) f) (some (some (.ref (p K)))) && He.eqO (PySem.W.specialIn K (.ref (p K)) "__get__") (some (some (.builtin "property.__get__"))) && decide (PySem.W.takesIn K (.ref (p K)) = some true) && recB "property" K (p K)
theorem ckP_ok {C p : PySem.W.Frag → Addr} {f : Str} {K : PySem.W.Frag} (h : ckP C p f K = true) : PropOf K (C K) f (p K) (recA "property" K (p K)) := by
  simp only [ckP, Bool.and_eq_true, decide_eq_true_eq] at h
  exact ⟨He.eqO_ok h.1.1.1, He.eqO_ok h.1.1.2, h.1.2, rec_ok h.2⟩
def ckO (C g : PySem.W.Frag → Addr) (K : PySem.W.Frag) : Bool := He.eqO (PySem.W.findIn K (.ref (C K)) "__call__") (some (some (.ref (g K)))) && PySem.W.isFn K (.ref (g K)) && PySem.W.fnIn K (g K)
theorem ckO_ok {C g : PySem.W.Frag → Addr} {K : PySem.W.Frag} (h : ckO C g K = true) : StX.CallO K (C K) (g K) := by
  simp only [ckO, Bool.and_eq_true] at h
  exact ⟨He.eqO_ok h.1.1, h.1.2, h.2⟩
def ckK (C D : PySem.W.Frag → Addr) (b : Bool) (K : PySem.W.Frag) : Bool := decide (PySem.W.kitOne K (.ref (C K)) (.ref (D K)) = some b)
theorem ckK_ok {C D : PySem.W.Frag → Addr} {b : Bool} {K : PySem.W.Frag} (h : ckK C D b K = true) : PySem.W.kitOne K (.ref (C K)) (.ref (D K)) = some b := of_decide_eq_true h
def ckF (l : List Str) (K : PySem.W.Frag) : Bool := l.all fun x => (He.Fa.free x).ok K
theorem ckF_ok {l : List Str} {K : PySem.W.Frag} {h : Heap} {mg : Str → Option Value} (X : K.In h) (G : h.Ns mainGlobals mg) (c : ckF l K = true) (x : Str) (hx : l.contains x = true) : mg x = none :=
  He.free_ok X G (List.all_eq_true.mp c x (List.contains_iff_mem.mp hx))
/-! ### a law's end -/
theorem callG {P : Program} {w : World} {K : PySem.W.Frag} {mg mb : Str → Option Value} {k : Nat} {f a : Addr} {sp : Sp} {t : Shared} {vs : List Value} {ns : List Int} (inK : K.In t.heap) (gl : t.heap.Ns mainGlobals mg) (bl : t.heap.Ns builtinsNs mb)
    (bb : ∀ x : Str, x ≠ "__name__" → mb x = bootBuiltins x) (nl : t.heap.NoLimit) (gg : t.gens = #[]) (at_a : t.heap.get? a = some { cls := .type "list", data := .seq vs.toArray }) (ii : IntsAre vs ns) (ln : ns.length ≤ sizeLine) (rm : Room k callerA)
    (F : ∀ base : Heap, K.In base → base.Ns mainGlobals mg → FR bm P w K mg base k f sp) (hs : ∀ H : Hp, Only H → SqL K H a (ns.map V.int) → sp [.ref a] H (fun v _ => v = .bl true) fun _ _ _ => False) :
    codeAny (model P w) callerA (.call (.ref f) ⟨[.ref a], []⟩) (fun r s' => r = .ok (.ret (.bool true)) ∧ OldK t.heap s'.heap ∧ s'.os = t.os ∧ AllBare s'.gens) t := by
  have rel := vals_ints ii
  have main : ∀ H : Hp, Only H → SqL K H a (ns.map V.int) → HOk P w H t.heap → (∀ b, H b ≠ none → b = a ∧ K.lookup a = none) →
      codeAny (model P w) callerA (.call (.ref f) ⟨[.ref a], []⟩) (fun r s' => r = .ok (.ret (.bool true)) ∧ OldK t.heap s'.heap ∧ s'.os = t.os ∧ AllBare s'.gens) t := by
    intro H only sq hok tr
    have free : ∀ {b : Addr} {o : Obj} {es : Array DictEntry} {ep : Nat}, t.heap.get? b = some o → o.data = .dict es ep → H b = none := by
      intro b o es ep e d
      by_cases z : H b = none
      · exact z
      · obtain ⟨rfl, _⟩ := tr b z
        rw [at_a] at e
        cases e
        exact absurd (show Data.seq vs.toArray _ = Data.dict es ep from d) (by simp)
    have keepNs : ∀ {b : Addr} {m : Str → Option Value}, t.heap.Ns b m → (hidT t.heap H).Ns b m := by
      rintro b m ⟨o, es, ep, e, d, r⟩
      exact ⟨o, es, ep, hidT_get e (free e d), d, r⟩
    have keepK : K.In (hidT t.heap H) := by
      intro b o e
      refine hidT_get (inK b o e) ?_
      by_cases z : H b = none
      · exact z
      · obtain ⟨rfl, q⟩ := tr b z
        rw [q] at e
        cases e
    obtain ⟨mc, l1, l2⟩ := nl
    have md : Mod K mg (hidT t.heap H) := ⟨keepK, keepNs gl, ⟨mb, keepNs bl, bb⟩, ⟨mc, keepNs l1, l2⟩⟩
    have en : Env0 P w K mg (hidT t.heap H) callerA [] t H := ⟨rfl, md, fun b o => of_hidT, Nat.le_of_eq (hidT_size _ _), trivial, fun b z => absurd (show b ∈ ([] : List Addr) from z) List.not_mem_nil, hok, .of_eq gg⟩
    apply codeAny_mono (F _ keepK (keepNs gl) callerA [] t H [.ref a] [.ref a] _ _ (fun _ => rfl) rm en (.cons rfl .nil) (hs H only sq))
    intro r s' z
    match r, z with
    | .error e, z =>
      obtain ⟨_, _, _, _, _, _, _, _, _, _, _, _, z⟩ := z
      exact z.elim
    | .ok .next, z => exact False.elim z
    | .ok .brk, z => exact False.elim z
    | .ok .cont, z => exact False.elim z
    | .ok (.ret u), z =>
      obtain ⟨v, H', os, bare, un, hok', r', q⟩ := z
      have q : v = .bl true := q
      subst q
      cases (show u = Value.bool true from r')
      refine ⟨rfl, OldK.of_keep ?_, os, bare⟩
      intro b o e
      rcases only b with z | ⟨ob, xs, z⟩
      · exact un.keep b o e z (fun m => absurd (show b ∈ ([] : List Addr) from m) List.not_mem_nil) (by simp)
      · have e1 := (hok b _ z).1
        have e2 := (hok' b _ (un.frzs b ob _ z)).1
        rw [e] at e1
        cases e1
        exact e2
  cases q : K.lookup a with
  | some o =>
    have e := inK a o q
    rw [at_a] at e
    cases e
    refine main (fun _ => none) (fun _ => .inl rfl) (.inr ⟨_, vs.toArray, _, q, rfl, rfl, rfl, ?_, by simpa using rel⟩) (fun b u z => ?_) (fun b z => absurd rfl z)
    · rw [List.size_toArray, ii.length]; exact ln
    · exact absurd (show (none : Option HO) = some u from z) (by simp)
  | none =>
    let o : Obj := { cls := .type "list", data := .seq vs.toArray }
    let H : Hp := upd (fun _ => none) a (.frz o (.lst (ns.map V.int)))
    have ha : H a = some (.frz o (.lst (ns.map V.int))) := upd_same
    have hb : ∀ b, b ≠ a → H b = none := fun b z => upd_ne z
    refine main H (fun b => ?_) (.inl (.inr ⟨o, ha⟩)) (fun b u z => ?_) (fun b z => ⟨?_, q⟩)
    · by_cases e : b = a
      · subst e; exact .inr ⟨_, _, ha⟩
      · exact .inl (hb b e)
    · by_cases e : b = a
      · subst e
        rw [ha] at z
        cases z
        exact ⟨at_a, by rw [List.length_map]; exact ln, vs, _, rel, at_a⟩
      · rw [hb b e] at z
        cases z
    · by_cases e : b = a
      · exact e
      · exact absurd (hb b e) z
theorem walkG {l : PySem.W.OpenLaw} {n k : Nat} {q : Program} {loose : List Str} {XP : (Str → Option Value) → Heap → Prop} {YP : World → Heap → Prop} {d : DefRec} (hn : l.most = some n) (hz : n ≤ sizeLine) (hdf : d.params.defaults = []) (hr : Room k callerA)
    (F : ∀ (w : World) (mg : Str → Option Value) (f : Addr) (h : Heap), YP w h → h.Ns mainGlobals mg → mg d.name = some (.ref f) → ∃ (K : PySem.W.Frag) (sp : Sp), K.In h ∧
      (∀ (H : Hp) (a : Addr) (ns : List Int), Only H → SqL K H a (ns.map V.int) → sp [.ref a] H (fun v _ => v = .bl true) fun _ _ _ => False) ∧ ∀ base : Heap, K.In base → base.Ns mainGlobals mg → FR bm l.prog w K mg base k f sp) :
    PySem.W.WalkO q loose XP YP l.row.toRowW d [] (fun f vs => PySem.call f vs) := by
  apply Att.attach_call hn hdf
  intro w s₀ s₁ mg mb f o pm cd doc a vs ns G Y ho hd hcd hmg hobj hints hlen hg
  obtain ⟨K, sp, inK, hsp, hF⟩ := F w mg f _ Y G.T.g hmg
  exact callG inK G.T.g G.T.b G.T.builtins G.T.nolimit hg hobj hints (Nat.le_trans hlen hz) hr hF fun H => hsp H a ns
/-- the law's promise by data -/
theorem lawD {K : PySem.W.Frag} {sp : DSp} (h : ∀ (ns : List Int) (M : MS) (Q : QD) (E : XD), (∀ M', Q (.bl true) M') → sp [.scr K ns] M Q E) (H : Hp) (a : Addr) (ns : List Int) (sq : SqL K H a (ns.map V.int)) : lift 1 sp [.ref a] H (fun v _ => v = .bl true) fun _ _ _ => False := by
  refine ⟨[.scr K ns], H, fun _ => none, fun d _ => d = .bl true, fun _ _ => False, rfl, .cons (.scr sq) .nil, ⟨fun a o e => ⟨e, rfl⟩, fun a mo e => nomatch (show (none : Option MO) = some mo from e)⟩, h ns _ _ _ fun _ => rfl, fun d Hf' M' v H' _ r e => ?_, fun _ _ _ _ _ z => z⟩
  have e : d = .bl true := e
  subst e
  cases r
  rfl
end DL
/-! DS1: set(list of hin), sorted of it. -/
namespace DL
open PySem PySem.Spec PyProof.Rows L2
/-- a set as it is made -/
abbrev oSet (w : World) : Obj := { cls := .type "set", dict := none, data := .set #[] 0 (.fresh 0 0 (!w.params.followText "set-order")) }
section
variable {P : Program} {w : World} {A : Around} {E : Value → Shared → Prop} {s : Shared}
theorem setOfL {l : Addr} {its : Array Value} (ks : List Int) {Q : Value → Shared → Prop} (calm : A.handled = none) (isl : s.heap.IsList l its) (hin : IntsAre its.toList ks) (few : ks.length + 1 < scanBound)
    (fin : ∀ (h' : Heap) (tk c : Nat), SetR w h' s.heap.objs.size (fun j => decide (j ∈ ks)) c → c ≤ ks.length → (∀ b o, s.heap.get? b = some o → h'.get? b = some o) → Q (.ref s.heap.objs.size) { s with heap := h', toks := tk }) :
    wpAny (model P w) A (call (.type "set") [.ref l]) Q E s := by
  have esz : its.size = ks.length := (Array.length_toList (xs := its)).symm.trans (IntsAre.length hin)
  obtain ⟨c0, tl0, m0⟩ := F.called_set.mro
  have m1 := F.called_set.made
  have m2 := F.called_set.sub
  apply wpAny_call
  apply codeAny_of_tree
  show wpAny _ _ (callAny (.type "set") _) _ _ _
  apply wpAny_pure
  refine ⟨Code.quiet_builtin _ (by decide +kernel), ?_⟩
  apply codeAny_builtin F.entry_type_call
  rw [Around.under_plain (weight_type_call_type "set" [.ref l] []) rfl]
  have m3 := F.called_set.notType
  have m4 := F.called_set.canCreate
  have m5 := F.typeCall_set_1 (.ref l)
  repeat (any_goals (first | assumption | wp_step))
  apply codeAny_mono (code_set_led1 (.ref l) (E := E) (Q₁ := fun x t => x = .ref s.heap.objs.size ∧ t = { s with heap := s.heap.push (oSet w) }) ⟨rfl, rfl⟩)
  intro r t hr
  match r, hr with
  | .error e, hr => exact hr
  | .ok .next, hr => exact hr.elim
  | .ok .brk, hr => exact hr.elim
  | .ok .cont, hr => exact hr.elim
  | .ok (.ret x), hr =>
    obtain ⟨rfl, rfl⟩ := hr
    have n1 : (s.heap.push (oSet w)).get? s.heap.objs.size = some (oSet w) := Heap.get?_push_size _ rfl
    have n2 : Shared.TypeIs { s with heap := s.heap.push (oSet w) } (.ref s.heap.objs.size) "set" := ⟨_, n1, rfl⟩
    have n3 := F.called_set.init.lookup
    have n4 := F.called_set.init.bind (.ref s.heap.objs.size)
    repeat (any_goals (first | assumption | wp_step))
    apply codeAny_mono (codeAny_call_builtin (R := wants (fun r t => r = .none ∧ ∃ h' tk c, t = { s with heap := h', toks := tk } ∧ SetR w h' s.heap.objs.size (fun j => decide (j ∈ ks)) c ∧ c ≤ ks.length ∧ (∀ b o, s.heap.get? b = some o → h'.get? b = some o)) E)
      F.called_set.init.plain F.entry_set_init (check_set_init_1 n2 ?_))
    · intro r t hr
      match r, hr with
      | .error e, hr => exact hr
      | .ok .next, hr => exact hr.elim
      | .ok .brk, hr => exact hr.elim
      | .ok .cont, hr => exact hr.elim
      | .ok (.ret x), hr =>
        obtain ⟨rfl, h', tk, c, rfl, z1, z2, z3⟩ := hr
        repeat (any_goals (first | assumption | wp_step))
        exact fin _ _ _ z1 z2 z3
    · obtain ⟨⟨k1, k2, k3, k4⟩, e1, e2, n, e3⟩ := isl
      simp only at e2 e3
      subst e2 e3
      have f1 : (s.heap.push (oSet w)).get? l = some { cls := .type "list", dict := k2, data := .seq its n, slots := k4 } := Heap.get?_push_of_some _ e1
      have f2 := F.sub_list_set
      have f3 := F.sub_list_frozenset
      have f4 : (Value.type "list" == Value.type "dict") = false := by decide
      have f5 : (s.heap.push (oSet w)).IsList l its := ⟨_, f1, rfl, n, rfl⟩
      unfold Builtin.«set.__init__» noKeywords Builtin.Frozenset.updateFrom
      generalize hP : pyIter = PI
      wp_walk
      subst hP
      apply wpAny_pyIter_list f5
      apply wpAny_bind
      apply wpAny_runValue
      have lt : l < s.heap.objs.size := Heap.lt_size e1
      have sz : (s.heap.push (oSet w)).objs.size = s.heap.objs.size + 1 := Heap.size_push ..
      have g1 : l ≠ (s.heap.push (oSet w)).objs.size := fun e => absurd (show l < s.heap.objs.size from lt) (by rw [e, sz]; exact Nat.not_lt_of_le (Nat.le_succ _))
      have g2 : s.heap.objs.size ∉ [(s.heap.push (oSet w)).objs.size, l] := by
        rw [sz]
        intro m
        rcases List.mem_cons.mp m with e | m
        · exact Nat.ne_of_lt (Nat.lt_succ_self _) e
        · exact Nat.ne_of_gt lt (List.mem_singleton.mp m)
      have g3 : ∀ (i : Nat) (v : Value), its[i]? = some v → ∃ k t, ks[i]? = some k ∧ v = .int k t := by
        intro i v hv
        have lt : i < ks.length := by rw [← esz]; exact (Array.getElem?_eq_some_iff.mp hv).1
        obtain ⟨t, e⟩ := PyProof.Rows.IntsAre.int_at hin i v (by rw [Array.getElem?_toList]; exact hv)
        refine ⟨ks[i], t, List.getElem?_eq_getElem lt, ?_⟩
        rw [e, List.getD_eq_getElem?_getD, List.getElem?_eq_getElem lt]
        rfl
      refine set_update_ints ((Walks.list (by simp [calm]) _ l g1 its).toS) s.heap.objs.size g2 ks esz few g3 (its.size - 0) 0 _ (by omega) (Nat.zero_le _) ⟨⟨_, Heap.get?_push_size _ rfl, rfl, rfl⟩, f5.push _⟩ ?_ ?_
      · exact ⟨0, Nat.le_refl 0, setR_new_at (Heap.get?_push_of_some _ n1)⟩
      · rintro ⟨h', g', d', tk', os'⟩ c hm hc hS
        cases (show g' = s.gens from hm.gens)
        cases (show d' = s.drawn from hm.drawn)
        cases (show os' = s.os from hm.os)
        show wpAny _ _ _ _ _ _
        apply wpAny_pure
        show wpAny _ _ (ret Value.none) _ _ _
        rw [esz] at hc
        apply wpAny_pure
        refine ⟨rfl, h', tk', c, rfl, hS, hc, fun b o e => ?_⟩
        have lt := Heap.lt_size e
        refine hm.heap b o ?_ (Heap.get?_push_of_some _ (Heap.get?_push_of_some _ e))
        rw [sz]
        intro m
        rcases List.mem_cons.mp m with e | m
        · exact Nat.ne_of_lt lt e
        · exact Nat.ne_of_lt (Nat.lt_succ_of_lt lt) (List.mem_singleton.mp m)
end
end DL
/-! DS2: sorted(set(xs)), whole numbers. -/
namespace DL
open PySem PySem.Spec PyProof.Rows L2
section
variable {X : Cx} {W : WX} {e : Expr} {pos : Pos}
def rSetL (K : PySem.W.Frag) (w : World) : List V → Hp → VK → Prop := fun vs H Q => ∃ (l : Addr) (ns : List Int), vs = [V.ref l] ∧ SqL K H l (ns.map V.int) ∧ ns.length < 60 ∧ ∀ p c, H p = none → c ≤ ns.length → Q (.ref p) (upd H p (SetO w p (fun j => decide (j ∈ ns)) c))
theorem cr_setL (hc : X.calm = true) : CallR X (.type "set") (rSetL X.K X.w) := by
  rintro pins s σ H vs us Q I r ⟨l, ns, e, hs, h60, q⟩
  subst e
  obtain ⟨its, rv, hl, hz⟩ := I.list hs
  obtain ⟨u, e, ru⟩ := vals1 r
  subst e
  cases (show u = Value.ref l from ru)
  have fr : H s.heap.objs.size = none := I.hok.fresh (Nat.le_refl _)
  apply setOfL ns (I.ok.hd hc) hl.isList (by simpa using ints_of_vals rv) (Nat.lt_of_lt_of_le (show ns.length + 1 < 61 by omega) (by decide))
  intro h' tk c R hcn kp
  exact ⟨.ref _, _, I.laid (t' := tk) kp (Nat.le_refl _) (setO_new R), rfl, q _ c fr hcn⟩
/-- sorted(set(xs)) -/
def wSortSet (wr : WA) : DL.WE := fun sl M Q E => wr sl M (fun ds M1 => ∃ ns : List Int, ds.map (der M1) = [.lst (ns.map Dd.int)] ∧ ns.length < 60 ∧ ∀ ms : List Int, ms.Pairwise (· < ·) → (∀ k, k ∈ ms ↔ k ∈ ns) → Q (.lst (ms.map Dd.int)) M1) E
theorem ints_rep {H : Hp} : ∀ {ns : List Int} {vs : List V}, RepAll H vs (ns.map Dd.int) → vs = ns.map V.int
  | [], _, .nil => rfl
  | _ :: ns, _, .cons h r => by
    cases h
    rw [ints_rep r]
    rfl
theorem rep_ints {H : Hp} : ∀ ns : List Int, RepAll H (ns.map V.int) (ns.map Dd.int)
  | [] => .nil
  | n :: ns => .cons (.int n) (rep_ints ns)
theorem d_sortSet {p p1 p2 : Pos} {wr : WA} (hc : X.calm = true) (hg : Gl X "sorted") (hm : X.mg "sorted" = none) (hg2 : Gl X "set") (hm2 : X.mg "set" = none) (ha : PA X [e] (lowA W wr))
    (he : starEach [e] X.env = (false, eval e X.env) :: starEach [] X.env := by rfl) (hp2 : (backTo p2 (starEach [] X.env)).any (·.1) = false := by rfl)
    (he1 : starEach [.Call (.Name "set" p1) [e] [] p2] X.env = (false, eval (.Call (.Name "set" p1) [e] [] p2) X.env) :: starEach [] X.env := by rfl) (hp : (backTo pos (starEach [] X.env)).any (·.1) = false := by rfl) :
    PE X (.Call (.Name "sorted" p) [.Call (.Name "set" p1) [e] [] p2] [] pos) (low W (wSortSet wr)) := by
  have one : PE X (.Call (.Name "set" p1) [e] [] p2) (tCB (rSetL X.K X.w) (lowA W wr)) := pe_callTy (cr_setL hc) hg2 hm2 (by kernel_rfl) ha (by decide) (by decide) he hp2
  refine PE.imp (pe_callB (cr_sortedSet hc) hg hm (by kernel_rfl) (pa_cons one pa_nil he1) (by decide) (by decide) he1 hp) fun σ H Q ⟨sl, Hf, M, Qd, Xd, rl, w, k, kx⟩ => ⟨sl, Hf, M, _, Xd, rl, w, fun ds Hf1 M1 vs H1 s1 r1 w1 => ?_, kx⟩
  obtain ⟨ns, ed, h60, q⟩ := w1
  have rt := RepTs.of s1.wd r1
  rw [ed] at rt
  obtain ⟨v, rfl, h⟩ := rt.one
  obtain ⟨l, xs, rfl, hl, r⟩ := h.lst s1.wd.le
  cases ints_rep r
  refine ⟨l, ns, rfl, .of hl, h60, fun p c hn hcl => ?_⟩
  refine ⟨p, _, c, rfl, upd_same, by omega, fun ms t up mem _ ht => ?_⟩
  have f1 := s1.wd.free hn
  have s3 : Stp Hf1 M1 H1 Hf1 M1 (upd H1 p (SetO X.w p (fun j => decide (j ∈ ns)) c)) := (Stp.refl s1.wd).other hn f1.2 f1.1
  have g := Grow.one (o := .lst (ms.map V.int)) s3.wd.le ht
  exact k (.lst (ms.map Dd.int)) _ M1 _ _ ((s1.trans s3).trans (Stp.grow s3.wd g)) (.lst upd_same ((rep_ints ms).mono g.fz)) (q ms up fun z => by rw [mem]; simp)
end
/-- two ascending lists of the same numbers -/
theorem asc_uniq : ∀ {a b : List Int}, a.Pairwise (· < ·) → b.Pairwise (· < ·) → (∀ k, k ∈ a ↔ k ∈ b) → a = b
  | [], [], _, _, _ => rfl
  | [], y :: b, _, _, h => absurd ((h y).mpr List.mem_cons_self) List.not_mem_nil
  | x :: a, [], _, _, h => absurd ((h x).mp List.mem_cons_self) List.not_mem_nil
  | x :: a, y :: b, ha, hb, h => by
    rw [List.pairwise_cons] at ha hb
    have e : x = y := by
      have h1 := (h x).mp List.mem_cons_self
      have h2 := (h y).mpr List.mem_cons_self
      rcases List.mem_cons.mp h1 with e | h1
      · exact e
      · rcases List.mem_cons.mp h2 with e | h2
        · exact e.symm
        · have := ha.1 y h2
          have := hb.1 x h1
          omega
    subst e
    rw [asc_uniq ha.2 hb.2 fun k => ?_]
    have := h k
    simp only [List.mem_cons] at this
    constructor
    · intro hk
      rcases this.mp (.inr hk) with e | z
      · have := ha.1 k hk; omega
      · exact z
    · intro hk
      rcases this.mpr (.inr hk) with e | z
      · have := hb.1 k hk; omega
      · exact z
end DL
/-! DS3: deciding rules, plainly. -/
namespace DL
open PySem PySem.Spec PyProof.Rows L2 Enc TL
/-- a rule's conditions are within the case -/
def mat (c : Case) (r : Rule) : Bool := r.1.all fun x => decide (x ∈ c)
def inC (a b : Case) : Bool := a.all fun x => decide (x ∈ b)
def strW (a b : Case) : Bool := decide (a.length < b.length) && inC a b
/-- the unbeaten ones of the matching rules -/
def decs (rs : List Rule) (c : Case) : List Rule := (rs.filter (mat c)).filter fun r => !((rs.filter (mat c)).any fun o => strW r.1 o.1)
def unb (rs : List Rule) (c : Case) (r : Rule) : Bool := mat c r && ((rs.filter fun o => mat c o && decide (r.1.length < o.1.length)).filter fun o => inC r.1 o.1).isEmpty
theorem unb_decs (rs : List Rule) (c : Case) : rs.filter (unb rs c) = decs rs c := by
  unfold decs
  rw [List.filter_filter]
  congr 1
  funext r
  unfold unb
  rw [Bool.and_comm]
  congr 1
  rw [Bool.eq_iff_iff, List.isEmpty_iff, List.filter_eq_nil_iff, Bool.not_eq_true', List.any_eq_false]
  constructor
  · intro h o ho
    rw [List.mem_filter] at ho
    unfold strW
    intro hs
    rw [Bool.and_eq_true] at hs
    exact h o (List.mem_filter.mpr ⟨ho.1, by rw [ho.2, hs.1]; rfl⟩) hs.2
  · intro h o ho
    rw [List.mem_filter, Bool.and_eq_true] at ho
    intro hs
    refine h o (List.mem_filter.mpr ⟨ho.1, ho.2.1⟩) ?_
    unfold strW
    rw [ho.2.2, hs]
    rfl
theorem decs_sub (rs : List Rule) (c : Case) : (decs rs c).Sublist rs := List.filter_sublist.trans List.filter_sublist
theorem decs_len (rs : List Rule) (c : Case) : (decs rs c).length ≤ rs.length := (decs_sub rs c).length_le
theorem isi_self {K : PySem.W.Frag} {cs : List Addr} {C : Addr} {ks : List Str} {xs : List Dd} (h : C ∈ cs) : gIsi K cs [.ins C ks xs, .raw (.ref C)] = some (.bl true) := by
  simp only [gIsi, tyD, clsD, if_pos h, Option.bind_some, PySem.W.kitOne, beq_self_eq_true, if_true]
  rfl
/-- the ascending numbers below 3 among some -/
theorem range3 {ms rs : List Int} (up : ms.Pairwise (· < ·)) (mem : ∀ k, k ∈ ms ↔ k ∈ rs) (h : ∀ k ∈ rs, 0 ≤ k ∧ k < 3) : ms = ((List.range 3).map fun (i : Nat) => (0 + (i : Int))).filter fun k => decide (k ∈ rs) := by
  refine asc_uniq up ?_ fun k => ?_
  · refine List.Pairwise.sublist List.filter_sublist ?_
    decide
  · rw [mem, List.mem_filter, decide_eq_true_eq]
    refine ⟨fun hk => ⟨?_, hk⟩, fun hk => hk.2⟩
    have := h k hk
    simp only [List.mem_map, List.mem_range]
    exact ⟨k.toNat, by omega, by omega⟩
end DL
namespace DL
open PySem PySem.Spec PyProof.Rows L2 Enc TL
theorem repr_twoR {rs : List Rule} (h : ∀ r ∈ rs, okRule r = true) (h12 : rs.length ≤ 12) : ∃ z, gRepr [.lst [.tup (rs.map enc), .tup (rs.map enc)]] = some (.str z) := by
  have a := leaves_enc (l := rs) fun r hr => (short_rule (h r hr)).1
  have b := show_enc (l := rs) fun r hr => (short_rule (h r hr)).2.1
  have c := weight_enc (l := rs) (b := 94) fun r hr => (short_rule (h r hr)).2.2
  have d := depthAll_enc rs
  have e : deep Rule = 3 := by decide
  refine repr_of (.inl ⟨_, rfl⟩) (p := .list [.tuple (rs.map pe), .tuple (rs.map pe)]) (by simp [py, pyAll, pyAll_enc]) ?_ ?_ ?_ ?_
  · rw [PyData.leavesShort, PyData.leavesShortAll, PyData.leavesShortAll, PyData.leavesShortAll, PyData.leavesShort, a]; rfl
  · rw [PyData.showable, PyData.showableAll, PyData.showableAll, PyData.showableAll, PyData.showable, b]; rfl
  · rw [PyData.depth, PyData.depthAll, PyData.depthAll, PyData.depthAll, PyData.depth]
    omega
  · rw [PyData.weight, PyData.weightAll, PyData.weightAll, PyData.weightAll, PyData.weight]
    omega
theorem S3.fr {M M' : MS} {p : Addr} (h : S3 M p) (f : Fr M M') : S3 M' p := by
  obtain ⟨a, b, c, e⟩ := h
  exact ⟨a, b, c, f _ _ e⟩
end DL
/-! DS4: sorted(ints). -/
namespace DL
open PySem PySem.Spec PyProof.Rows L2 Enc TL
end DL
namespace DL
open PySem PySem.Spec PyProof.Rows L2 Enc TL
/-- a list that holds two tuples of small numbers -/
theorem short_ints {ms : List Int} (h : ∀ k ∈ ms, SmallI k) : PyData.leavesShortAll 8 (ms.map .int) = true ∧ PyData.showableAll (ms.map .int) = true ∧ PyData.weightAll (ms.map .int) ≤ ms.length * 8 := by
  have e : (ms.map PyData.int) = ms.map (pe (α := Int)) := rfl
  rw [e]
  exact ⟨leaves_enc fun k hk => (short_int (h k hk)).1, show_enc fun k hk => (short_int (h k hk)).2.1, weight_enc (b := 7) fun k hk => (short_int (h k hk)).2.2⟩
theorem repr_twoI {a b : List Int} (ha : ∀ k ∈ a, SmallI k) (hb : ∀ k ∈ b, SmallI k) (la : a.length ≤ 100) (lb : b.length ≤ 100) : ∃ z, gRepr [.lst [.tup (a.map Dd.int), .tup (b.map Dd.int)]] = some (.str z) := by
  obtain ⟨a1, a2, a3⟩ := short_ints ha
  obtain ⟨b1, b2, b3⟩ := short_ints hb
  have da := depthAll_enc a
  have db := depthAll_enc b
  have e : deep Int = 0 := rfl
  have pa : pyAll (a.map Dd.int) = some (a.map .int) := pyAll_enc a
  have pb : pyAll (b.map Dd.int) = some (b.map .int) := pyAll_enc b
  refine repr_of (.inl ⟨_, rfl⟩) (p := .list [.tuple (a.map .int), .tuple (b.map .int)]) (by simp [py, pyAll, pa, pb]) ?_ ?_ ?_ ?_
  · rw [PyData.leavesShort, PyData.leavesShortAll, PyData.leavesShortAll, PyData.leavesShortAll, PyData.leavesShort, PyData.leavesShort, a1, b1]; rfl
  · rw [PyData.showable, PyData.showableAll, PyData.showableAll, PyData.showableAll, PyData.showable, PyData.showable, a2, b2]; rfl
  · rw [PyData.depth, PyData.depthAll, PyData.depthAll, PyData.depthAll, PyData.depth, PyData.depth]
    have da : PyData.depthAll (a.map .int) ≤ 0 := da
    have db : PyData.depthAll (b.map .int) ≤ 0 := db
    omega
  · rw [PyData.weight, PyData.weightAll, PyData.weightAll, PyData.weightAll, PyData.weight, PyData.weight]
    omega
/-- ascending numbers without repetition are what sorting gives -/
theorem sort_nodup {ms ns : List Int} (hp : ms.Perm ns) (hs : ms.Pairwise (· ≤ ·)) (hn : ns.Nodup) : ms.Pairwise (· < ·) := by
  have hm : ms.Nodup := hp.nodup_iff.mpr hn
  exact (hs.and hm).imp fun {x y} h => by have := h.2; omega
/-- twelve rules of one case -/
def wideR (c : Case) (b s : Int) : List Rule := ((List.range 12).map fun (i : Nat) => (0 + (i : Int))).map fun i => (c, (b + s * i) % 100)
theorem wide_nodup {c : Case} {b s : Int} (hs : s ∈ [1, 3, 7, 9, 11, 49]) : ((wideR c b s).map (·.2)).Nodup := by
  unfold wideR
  rw [List.map_map, List.map_map, List.Nodup, List.pairwise_map]
  refine List.Pairwise.imp_of_mem ?_ (List.nodup_range (n := 12))
  intro i j hi hj ne
  rw [List.mem_range] at hi hj
  show (b + s * (0 + (i : Int))) % 100 ≠ (b + s * (0 + (j : Int))) % 100
  intro e
  simp only [List.mem_cons, List.not_mem_nil, or_false] at hs
  rcases hs with rfl | rfl | rfl | rfl | rfl | rfl <;> omega
theorem wide_len (c : Case) (b s : Int) : (wideR c b s).length = 12 := by simp [wideR]
theorem wide_fst {c : Case} {b s : Int} {r : Rule} (h : r ∈ wideR c b s) : r.1 = c ∧ 0 ≤ r.2 ∧ r.2 < 100 := by
  unfold wideR at h
  obtain ⟨i, _, rfl⟩ := List.mem_map.mp h
  exact ⟨rfl, by show 0 ≤ (b + s * i) % 100; omega, by show (b + s * i) % 100 < 100; omega⟩
theorem strW_self (a : Case) : strW a a = false := by unfold strW; simp
/-- all of them decide for their case -/
theorem wide_decs (c : Case) (b s : Int) : decs (wideR c b s) c = wideR c b s := by
  have h1 : (wideR c b s).filter (mat c) = wideR c b s := by
    rw [List.filter_eq_self]
    intro r hr
    unfold mat
    rw [(wide_fst hr).1, List.all_eq_true]
    intro x hx
    exact decide_eq_true hx
  unfold decs
  rw [h1, List.filter_eq_self]
  intro r hr
  rw [Bool.not_eq_true', List.any_eq_false]
  intro o ho
  rw [(wide_fst hr).1, (wide_fst ho).1, strW_self]
  decide
theorem wide_none {c : Case} {b s : Int} (h : c ≠ []) : decs (wideR c b s) [] = [] := by
  have h1 : (wideR c b s).filter (mat []) = [] := by
    rw [List.filter_eq_nil_iff]
    intro r hr
    unfold mat
    rw [(wide_fst hr).1]
    cases c with
    | nil => exact absurd rfl h
    | cons x c => simp
  unfold decs
  rw [h1]
  rfl
end DL
/-! DD1: dicts of whole numbers: made of pairs, asked, their items sorted. -/
namespace DL
open PySem PySem.Spec PyProof.Rows L2 Enc
/-- a dict of whole numbers, as data -/
def dicI (m : List (Int × Int)) : Dd := .dic (m.map fun p => Sum.inl p.1) (m.map fun p => .int p.2)
def putI (m : List (Int × Int)) (k v : Int) : List (Int × Int) := if (m.any fun p => decide (p.1 = k)) = true then m.map (fun p => if p.1 = k then (p.1, v) else p) else m ++ [(k, v)]
/-- pair by pair: a key that comes again takes the last value -/
def mrgI (m l : List (Int × Int)) : List (Int × Int) := l.foldl (fun m p => putI m p.1 p.2) m
def getI (m : List (Int × Int)) (k : Int) : Option Int := (m.find? fun p => decide (p.1 = k)).map (·.2)
def kvI (m : List (Int × Int)) : List (Key × V) := m.map fun p => (Sum.inl p.1, V.int p.2)
theorem put_kvI (m : List (Int × Int)) (k v : Int) : putK (kvI m) (Sum.inl k : Key) (.int v) = kvI (putI m k v) := by
  unfold putK putI kvI
  have e : ((m.map fun p => ((Sum.inl p.1 : Key), V.int p.2)).any fun kv => decide (kv.1 = (Sum.inl k : Key))) = m.any fun p => decide (p.1 = k) := by
    rw [List.any_map]
    congr 1
    funext p
    simp
  rw [e]
  split
  · rw [List.map_map, List.map_map]
    congr 1
    funext p
    by_cases h : p.1 = k <;> simp [h]
  · simp
theorem mrg_kvI : ∀ (l m : List (Int × Int)), mergeK (kvI m) (kvI l) = kvI (mrgI m l)
  | [], m => rfl
  | p :: l, m => by
    show mergeK (putK (kvI m) (Sum.inl p.1 : Key) (.int p.2)) (kvI l) = kvI (mrgI (putI m p.1 p.2) l)
    rw [put_kvI, mrg_kvI l]
theorem val_kvI (m : List (Int × Int)) (k : Int) : valV (kvI m) (Sum.inl k : Key) = (getI m k).map V.int := by
  unfold valV getI kvI
  rw [List.find?_map]
  have e : ((fun kv : Key × V => decide (kv.1 = (Sum.inl k : Key))) ∘ fun p : Int × Int => ((Sum.inl p.1 : Key), V.int p.2)) = fun p => decide (p.1 = k) := by
    funext p
    simp
  rw [e]
  cases m.find? fun p => decide (p.1 = k) <;> rfl
theorem kvI_of {H : Hp} : ∀ {m : List (Int × Int)} {kvs : List (Key × V)}, kvs.map (·.1) = m.map (fun p => Sum.inl p.1) → RepAll H (kvs.map (·.2)) (m.map fun p => Dd.int p.2) → kvs = kvI m
  | [], [], _, _ => rfl
  | [], _ :: _, e, _ => by simp at e
  | _ :: _, [], e, _ => by simp at e
  | p :: m, (k, v) :: kvs, e, r => by
    simp only [List.map_cons, List.cons.injEq] at e r
    obtain ⟨e1, e2⟩ := e
    cases r with
    | cons h t =>
      cases h
      have ih := kvI_of e2 t
      show (k, V.int p.2) :: kvs = (Sum.inl p.1, V.int p.2) :: kvI m
      rw [e1, ih]
theorem RepT.dicI {Hf : Hp} {M : MS} {H : Hp} {v : V} {m : List (Int × Int)} (l : Same Hf H) (h : RepT Hf M H v (dicI m)) : ∃ a, v = .ref a ∧ H a = some (.dK (kvI m)) := by
  obtain ⟨a, kvs, rfl, ha, hk, hr⟩ := RepT.dic l h
  rw [kvI_of hk hr] at ha
  exact ⟨a, rfl, ha⟩
theorem rep_dicI {H : Hp} {a : Addr} {m : List (Int × Int)} (h : H a = some (.dK (kvI m))) : Rep H (.ref a) (dicI m) := by
  refine .dic h (by unfold kvI; rw [List.map_map]; rfl) ?_
  have e : (kvI m).map (·.2) = (m.map (·.2)).map V.int := by unfold kvI; rw [List.map_map, List.map_map]; rfl
  have e2 : (m.map fun p => Dd.int p.2) = (m.map (·.2)).map Dd.int := by rw [List.map_map]; rfl
  rw [e, e2]
  exact rep_ints _
/-- the pairs of a tuple's items -/
def prsD : List Dd → Option (List (Int × Int))
  | [] => some []
  | .tup [.int a, .int b] :: ds => (prsD ds).map fun l => (a, b) :: l
  | _ => none
theorem prsD_enc : ∀ l : List (Int × Int), prsD (l.map enc) = some l
  | [] => rfl
  | p :: l => by
    show (prsD (l.map enc)).map _ = _
    rw [prsD_enc l]
    rfl
theorem prsD_some : ∀ {ds : List Dd} {l : List (Int × Int)}, prsD ds = some l → ds = l.map enc
  | [], l, h => by cases h; rfl
  | d :: ds, l, h => by
    unfold prsD at h
    split at h
    · cases h
      rename_i e; cases e
    · rename_i a b ds' e
      cases e
      cases hq : prsD ds with
      | none => rw [hq] at h; cases h
      | some l' =>
        rw [hq] at h
        cases h
        rw [prsD_some hq]
        rfl
    · cases h
def gDict : List Dd → Option Dd
  | [.tup ds] => (prsD ds).map fun l => dicI (mrgI [] l)
  | _ => none
section
variable {X : Cx} {W : WX}
theorem pairsV {pins : List (Addr × Obj)} {σ : L2.St} {H : Hp} {s : Shared} (I : Inv X pins σ H s) : ∀ {ps : List Addr} {kvs : List (Key × V)}, Paired (fun p kv => SqT X.K H p [kV kv.1, kv.2]) ps kvs →
    ∃ (prs : List (Key × Value)) (uv : List (Value × Value)), KV kvs prs ∧ prs.length = ps.length ∧ uv.length = ps.length ∧ ∀ (j : Nat) (w : Value × Value), uv[j]? = some w → ∃ (q : Key × Value) (b : Addr), prs[j]? = some q ∧ w.2 = q.2 ∧ keyIs q.1 w.1 = true ∧ ps[j]? = some b ∧ IsTup s.heap b #[w.1, w.2]
  | _, _, .nil => ⟨[], [], .nil, rfl, rfl, fun j q e => by simp at e⟩
  | _, _, .cons (a := p) (b := kv) h t => by
    obtain ⟨prs, uv, r, hl, hl2, hp⟩ := pairsV I t
    obtain ⟨its, rv, ht, _⟩ := I.tuple h
    obtain ⟨u, y, ei, ru, ry⟩ := vals2 rv
    subst ei
    refine ⟨(kv.1, y) :: prs, (u, y) :: uv, .cons ⟨rfl, ry⟩ r, by rw [List.length_cons, List.length_cons, hl], by rw [List.length_cons, List.length_cons, hl2], fun j w e => ?_⟩
    cases j with
    | zero =>
      have e' : (u, y) = w := Option.some.inj e
      subst e'
      exact ⟨_, p, rfl, rfl, kV_is (P := X.prog) (w := X.w) ru, rfl, ht⟩
    | succ j =>
      obtain ⟨q, b, e1, e2, e3, e4, e5⟩ := hp j w (by simpa using e)
      exact ⟨q, b, by simpa using e1, e2, e3, by simpa using e4, e5⟩
/-- dict(t), t a tuple of pairs -/
theorem cr_dictT (hcalm : X.calm = true) : CallR X (.type "dict") (fun xs H Q => ∃ (a : Addr) (o : Obj) (ps : List Addr) (kvs : List (Key × V)), xs = [.ref a] ∧ H a = some (.frz o (.tup (ps.map V.ref))) ∧ o.dict = none ∧ Paired (fun p kv => SqT X.K H p [kV kv.1, kv.2]) ps kvs ∧
    ∀ p, H p = none → Q (.ref p) (upd H p (.dK (mergeK [] kvs)))) := by
  intro pins s σ H xs us Q I r q
  obtain ⟨a, o, ps, kvs, ex, hq, hdn, hp, q⟩ := q
  subst ex
  obtain ⟨u, eu, rx⟩ := vals1 r
  subst eu
  cases rx
  obtain ⟨ho, hz, its, rv, o', ho', hcl, n, hdat⟩ := I.hok a _ hq
  rw [ho] at ho'
  cases ho'
  have ei := refs_at rv
  subst ei
  rw [List.length_map] at hz
  obtain ⟨prs, uv, rel, hl, hl2, hpr⟩ := pairsV I hp
  refine PySem.call_dict_pairs (knd := mixKind X.prog X.w) (kvs := prs) (PairArg.tuple a (ps.map Value.ref).toArray (fun j => ps.getD j 0) uv) (I.ok.hd hcalm) ⟨⟨o, n, ho, hcl, hdn, hdat⟩, ?_, fun j k v e => ?_⟩ ⟨by rw [hl, hl2], fun i key v e => ?_⟩ (by rw [hl2]; exact hz) fun h' tk hd' k => ?_
  · rw [hl2]; simp
  · obtain ⟨q', b, e1, e2, e3, e4, e5⟩ := hpr j _ e
    have eb : ps.getD j 0 = b := by rw [List.getD_eq_getElem?_getD, e4]; rfl
    refine ⟨by simp [e4], .inl ?_⟩
    show s.heap.IsTuple (ps.getD j 0) #[k, v]
    rw [eb]
    exact e5
  · obtain ⟨q', b, e1, e2, e3, e4, e5⟩ := hpr i _ e
    obtain ⟨qk, qv⟩ := q'
    cases e2
    exact ⟨qk, e1, e3⟩
  · have hm : (s.heap.objs.size == sysModules) = false := beq_eq_false_iff_ne.mpr (Nat.ne_of_gt I.big)
    have hlen : (mergeK [] kvs).length ≤ sizeLine := by
      refine Nat.le_trans (length_mergeK kvs []) ?_
      rw [List.length_nil, Nat.zero_add, rel.length, hl]
      exact hz
    exact ⟨.ref s.heap.objs.size, upd H s.heap.objs.size (.dK (mergeK [] kvs)), I.laid (t' := tk) (fun b o e => k b o (by simp) e) (Nat.le_refl _) (show ObjOk X.prog X.w _ _ _ (.dK (mergeK [] kvs)) from ⟨hlen, hm, merged [] prs, KV.merge rel .nil, hd'⟩), rfl, q _ (I.hok.fresh (Nat.le_refl _))⟩
theorem pairs_refs {Hf H : Hp} (e : Same Hf H) {K : PySem.W.Frag} : ∀ {l : List (Int × Int)} {xs : List V}, RepAll Hf xs (l.map enc) → ∃ ps : List Addr, xs = ps.map V.ref ∧ Paired (fun p kv => SqT K H p [kV kv.1, kv.2]) ps (kvI l)
  | [], _, .nil => ⟨[], rfl, .nil⟩
  | p :: l, _, .cons h t => by
    obtain ⟨ps, rfl, q⟩ := pairs_refs e t
    cases h with
    | tup ha hn r =>
      cases r with
      | cons r1 r2 =>
        cases r2 with
        | cons r2 r3 =>
          cases r3
          cases r1
          cases r2
          exact ⟨_ :: ps, rfl, .cons (.inl (rd_mono e (.inr ⟨_, ha⟩))) q⟩
theorem c_dict (hc : X.calm = true) : CallG X (.type "dict") gDict := by
  refine ⟨_, cr_dictT hc, fun Hf M H xs ds z Q w rt hz q => ?_⟩
  unfold gDict at hz
  split at hz
  · rename_i es
    cases hp : prsD es with
    | none => rw [hp] at hz; cases hz
    | some l =>
      rw [hp] at hz
      cases hz
      rw [prsD_some hp] at rt
      obtain ⟨v, rfl, h⟩ := rt.one
      obtain ⟨a, o, ys, rfl, ha, hn, r⟩ := h.tupO
      obtain ⟨ps, rfl, pr⟩ := pairs_refs (K := X.K) w.le r
      refine ⟨a, o, ps, _, rfl, w.le _ _ ha, hn, pr, fun p hp' => ?_⟩
      have e : mergeK [] (kvI l) = kvI (mrgI [] l) := mrg_kvI l []
      rw [e]
      exact q _ _ _ (Grow.one w.le hp') (rep_dicI upd_same)
  · cases hz
/-- d.get(k, x) -/
def wDGet2 (wo we wf : DL.WE) : DL.WE := fun sl M Q E => wo sl M (fun d M1 => ∃ m, d = dicI m ∧ we sl M1 (fun k M2 => ∃ i, k = .int i ∧ wf sl M2 (fun z M3 => Q (match getI m i with | some v => .int v | none => z) M3) E) E) E
theorem d_dget2 {o e f : Expr} {apos cpos : Pos} {wo we wf : DL.WE} (hu : X.A.units + 150 < cLine) (ho : PE X o (low W wo)) (he : PE X e (low W we)) (hf : PE X f (low W wf)) (m : M2 X o "get" apos e f cpos) : PE X (.Call (.Attribute o "get" apos) [e, f] [] cpos) (low W (wDGet2 wo we wf)) := by
  refine PE.imp (pe_dget2 (by omega) ho he hf m) fun σ H Q ⟨sl, Hf, M, Qd, Xd, rl, w, k, kx⟩ => ⟨sl, Hf, M, _, Xd, rl, w, fun d Hf1 M1 v H1 s1 r1 ⟨m, hd, w1⟩ => ?_, kx⟩
  subst hd
  obtain ⟨a, rfl, ha⟩ := RepT.dicI (M := M1) s1.wd.le (.fz r1)
  refine ⟨a, rfl, .inl ⟨_, .inl ha⟩, sl, Hf1, M1, _, Xd, rl.step s1, w1, fun d Hf2 M2 v H2 s2 r2 ⟨i, hi, w2⟩ => ?_, fun c Hf2 M2 H2 s2 hx => kx c Hf2 M2 H2 (s1.trans s2) hx⟩
  subst hi
  cases r2
  refine ⟨sl, Hf2, M2, _, Xd, rl.step (s1.trans s2), w2, fun z Hf3 M3 u H3 s3 r3 w3 => ?_, fun c Hf3 M3 H3 s3 hx => kx c Hf3 M3 H3 ((s1.trans s2).trans s3) hx⟩
  have s123 := (s1.trans s2).trans s3
  obtain ⟨a', ea', ha3⟩ := RepT.dicI (M := M3) s3.wd.le (.fz (r1.mono (s2.trans s3).up))
  cases ea'
  refine ⟨_, DGet.k (k := Sum.inl i) ha3, ?_⟩
  rw [val_kvI]
  cases hg : getI m i with
  | none =>
    rw [hg] at w3
    exact k _ Hf3 M3 _ H3 s123 r3 w3
  | some v =>
    rw [hg] at w3
    exact k _ Hf3 M3 _ H3 s123 (.int v) w3
end
end DL
/-! DD2: sorted(d.items()). -/
namespace DL
open PySem PySem.Spec PyProof.Rows L2 Enc
open PySem.W (EachIs alike alikeAll dataLt AllAlike Sortable dataLe SortsAt dataKind list_sort_vals sortVals_data sortVals_length sortingHeap sortingHeap_old each_map bound_map sortVals)
/-- objects already laid are tracked -/
theorem takeZ {X : Cx} {pins : List (Addr × Obj)} {σ : L2.St} {H0 : Hp} {s : Shared} {h' : Heap} {tk : Nat} (I0 : Inv X pins σ H0 s) : ∀ (L : List (Addr × HO)) (H1 : Hp), Inv X pins σ H1 { s with heap := h', toks := tk } → (L.map (·.1)).Nodup →
    (∀ p ∈ L, s.heap.objs.size ≤ p.1 ∧ H1 p.1 = none ∧ ∀ H2, ObjOk X.prog X.w H2 h' p.1 p.2) →
    ∃ H2, Inv X pins σ H2 { s with heap := h', toks := tk } ∧ Same H1 H2 ∧ ∀ p ∈ L, H2 p.1 = some p.2
  | [], H1, I1, _, _ => ⟨H1, I1, Same.refl _, fun _ h => nomatch h⟩
  | p :: L, H1, I1, hn, h => by
    obtain ⟨hb, hnone, ok⟩ := h p List.mem_cons_self
    have I2 : Inv X pins σ (upd H1 p.1 p.2) { s with heap := h', toks := tk } := I1.take (h' := h') (t' := tk) (fun b ob _ e => e) (I0.fpOk hb hnone) (ok _)
    rw [List.map_cons, List.nodup_cons] at hn
    obtain ⟨H2, I3, g, q⟩ := takeZ I0 L (upd H1 p.1 p.2) I2 hn.2 fun c hc => by
      obtain ⟨c1, c2, c3⟩ := h c (List.mem_cons_of_mem _ hc)
      exact ⟨c1, by rw [upd_ne (fun z => hn.1 (by rw [← z]; exact List.mem_map.mpr ⟨c, hc, rfl⟩))]; exact c2, c3⟩
    refine ⟨H2, I3, fun b o e => g b o (by rw [upd_ne (ne_of_none e hnone)]; exact e), fun c hc => ?_⟩
    rcases List.mem_cons.mp hc with rfl | hc
    · exact g _ _ upd_same
    · exact q c hc
/-- what is new is frozen -/
def grownH (Hf H H' : Hp) : Hp := fun b => match Hf b with
  | some o => some o
  | none => match H b with
    | some _ => none
    | none => H' b
theorem grownH_new {Hf H H' : Hp} (l : Same Hf H) {b : Addr} (h : H b = none) : grownH Hf H H' b = H' b := by
  unfold grownH
  rw [l.free h, h]
theorem Grow.all {Hf H H' : Hp} (l : Same Hf H) (up : Same H H') : Grow Hf H (grownH Hf H H') H' := by
  refine ⟨up, fun b o e => by unfold grownH; rw [e], fun b o e => ?_, fun b o e n => ?_⟩
  · unfold grownH at e
    cases hf : Hf b with
    | some u =>
      rw [hf] at e
      cases e
      exact up _ _ (l _ _ hf)
    | none =>
      rw [hf] at e
      cases hh : H b with
      | some u => rw [hh] at e; cases e
      | none => rw [hh] at e; exact e
  · unfold grownH at e
    rw [n] at e
    cases hh : H b with
    | some u => rw [hh] at e; cases e
    | none => rfl
/-- a pair of numbers in the heap -/
def PrI (h : Heap) (a : Addr) (b : Int × Int) : Prop := ∃ t u, h.get? a = some { cls := .type "tuple", data := .seq #[.int b.1 t, .int b.2 u] }
def hoI (h : Heap) (a : Addr) : HO := match h.get? a with
  | some o => (match o.data with
    | .seq ⟨[.int i _, .int j _]⟩ _ => .frz o (.tup [.int i, .int j])
    | _ => .tup [])
  | none => .tup []
theorem PrI.ho {h : Heap} {a : Addr} {b : Int × Int} (x : PrI h a b) : ∃ o : Obj, o.dict = none ∧ hoI h a = .frz o (.tup [.int b.1, .int b.2]) ∧ ∀ {P : Program} {w : World} (H2 : Hp), ObjOk P w H2 h a (hoI h a) := by
  obtain ⟨t, u, e⟩ := x
  have eh : hoI h a = .frz { cls := .type "tuple", data := .seq #[.int b.1 t, .int b.2 u] } (.tup [.int b.1, .int b.2]) := by
    unfold hoI
    rw [e]
  refine ⟨_, rfl, eh, fun H2 => ?_⟩
  rw [eh]
  exact ⟨e, by show 2 ≤ sizeLine; decide, [.int b.1 t, .int b.2 u], .cons ⟨t, rfl⟩ (.cons ⟨u, rfl⟩ .nil), _, e, rfl, _, rfl⟩
theorem PrI.reads {h : Heap} {a : Addr} {b : Int × Int} (x : PrI h a b) : ∃ as, Reads h (.ref a) (pe b) as := by
  obtain ⟨t, u, e⟩ := x
  exact ⟨_, .tuple e rfl rfl (.cons (.int _ _) (.cons (.int _ _) .nil))⟩
theorem PrI.keeps {h h' : Heap} {a : Addr} {b : Int × Int} (x : PrI h a b) (k : ∀ o, h.get? a = some o → h'.get? a = some o) : PrI h' a b := by
  obtain ⟨t, u, e⟩ := x
  exact ⟨t, u, k _ e⟩
theorem PrI.inj {h : Heap} {a : Addr} {b c : Int × Int} (x : PrI h a b) (y : PrI h a c) : b = c := by
  obtain ⟨t, u, e⟩ := x
  obtain ⟨t', u', e'⟩ := y
  rw [e] at e'
  injection e' with e'
  injection e' with _ _ e' _
  injection e' with e' _
  have e2 := congrArg Array.toList e'
  simp at e2
  exact Prod.ext e2.1.1 e2.2.1
theorem each_made {P : Program} {w : World} {h : Heap} : ∀ {m : List (Int × Int)} {vs : List (Key × Value)} {es : List DictEntry} {as : List Addr}, KV (kvI m) vs → Pairs (mixKind P w) es vs → as.length = es.length →
    (∀ (j : Nat) (a : Addr), as[j]? = some a → ∃ e, es[j]? = some e ∧ h.get? a = some { cls := .type "tuple", data := .seq #[e.key, e.val] }) → EachIs (PrI h) as m
  | [], _, _, as, .nil, .nil, hl, _ => by
    cases as with
    | nil => exact .nil
    | cons => cases hl
  | p :: m, _, _, as, .cons (b := q) r t, .cons (e := e) h1 h2 ps, hl, hp => by
    cases as with
    | nil => cases hl
    | cons a as =>
      refine .cons ?_ (each_made t ps (Nat.succ.inj hl) fun j b hj => hp (j + 1) b hj)
      obtain ⟨e', he, hg⟩ := hp 0 a rfl
      cases he
      obtain ⟨r1, u, r2⟩ := r
      have h1 : keyIs q.1 e.key = true := h1
      rw [← r1] at h1
      rcases keyIs_shape h1 with ⟨i, tt, e1, e2⟩ | ⟨x, tt, e1, e2⟩
      · cases e1
        refine ⟨tt, u, ?_⟩
        rw [hg, e2, h2, r2]
      · cases e1
theorem each_val {h : Heap} : ∀ {as : List Addr} {m : List (Int × Int)}, EachIs (PrI h) as m → EachIs (fun v b => ∃ a, v = Value.ref a ∧ a ∈ as ∧ PrI h a b) (as.map Value.ref) m
  | _, _, .nil => .nil
  | _, _, .cons x t => .cons ⟨_, rfl, List.mem_cons_self, x⟩ ((each_val t).mono fun _ _ ⟨a, e, ha, p⟩ => ⟨a, e, List.mem_cons_of_mem _ ha, p⟩)
theorem each_addr {h : Heap} {as : List Addr} : ∀ {out : List Value} {m : List (Int × Int)}, EachIs (fun v b => ∃ a, v = Value.ref a ∧ a ∈ as ∧ PrI h a b) out m → ∃ ts : List Addr, out = ts.map Value.ref ∧ (∀ t ∈ ts, t ∈ as) ∧ EachIs (PrI h) ts m
  | _, _, .nil => ⟨[], rfl, fun _ h => (nomatch h), .nil⟩
  | _, _, .cons ⟨a, e, ha, p⟩ t => by
    obtain ⟨ts, rfl, h1, h2⟩ := each_addr t
    refine ⟨a :: ts, by rw [e]; rfl, fun t ht => ?_, .cons p h2⟩
    rcases List.mem_cons.mp ht with rfl | ht
    · exact ha
    · exact h1 t ht
def rSortIt (x : V) (H : Hp) (Q : VK) : Prop := ∃ (d : Addr) (m : List (Int × Int)), x = .ref d ∧ H d = some (.dK (kvI m)) ∧ ∀ (H' : Hp) (p : Addr) (ts : List Addr) (out : List (Int × Int)), Same H H' → H p = none → (∀ t ∈ ts, H t = none) → H' p = some (.lst (ts.map V.ref)) →
  EachIs (fun t b => ∃ o : Obj, o.dict = none ∧ H' t = some (.frz o (.tup [.int b.1, .int b.2]))) ts out → out.Perm m → Asc out → Q (.ref p) H'
section
variable {X : Cx} {W : WX} {e : Expr} {p apos cpos pos : Pos}
theorem pe_sortIt {te : TE} (hc : X.calm = true) (hu : X.A.units + 150 < cLine) (he : PE X e te) (hg : Gl X "sorted") (hm : X.mg "sorted" = none) (hv : bootBuiltins "sorted" = some (.builtin "sorted")) (hbase : attributeBase e "items" X.env (eval e X.env) = eval e X.env := by rfl) (hline : (apos.endLine == cpos.line) = true := by rfl)
    (hs : starEach [.Call (.Attribute e "items" apos) [] [] cpos] X.env = (false, eval (.Call (.Attribute e "items" apos) [] [] cpos) X.env) :: starEach [] X.env := by rfl) :
    PE X (.Call (.Name "sorted" p) [.Call (.Attribute e "items" apos) [] [] cpos] [] pos) (fun σ H Q => te σ H fun x H1 => rSortIt x H1 Q) := by
  refine ⟨fun pins s σ H Q I hq => ?_⟩
  refine wpAny_Call_Name_kw (ld_blt I hg hm hv ?_)
  refine PyProof.Rows.callWith_builtin1 ?_ hs rfl
  rw [hs]
  show wpAny _ _ (spliced ((false, eval (.Call (.Attribute e "items" apos) [] [] cpos) X.env) :: backTo pos (starEach [] X.env))) _ _ s
  refine Calls.spliced_cons ?_
  refine wpAny_Call_method (T := "dict") (id := "dict.items") hbase rfl hline F.plainAttrs_dict F.slot_dict_items F.type_dict_items (thn (he.run pins s σ H _ I hq) fun u s1 ⟨x, H1, I1, rx, d, m, ex, hd, q⟩ => ?_)
  subst ex
  obtain rfl : u = Value.ref d := rx
  obtain ⟨hz, hs0, vs, kv, hdo⟩ := I1.hok d _ hd
  have lk : (kvI m).length = vs.length := Paired.length kv
  have I2 : Inv X pins σ H1 { s1 with heap := s1.heap.push { cls := .type "dict_items", data := .fields #[.ref d] } } := I1.kept (t' := s1.toks) fun b ob q => Heap.get?_push_of_some _ q
  refine ⟨hdo.typeIs, hdo.mapOf.noDict, ?_⟩
  show wpAny _ _ (callWith cpos (.builtin "dict.items") [.ref d] [] []) _ X.xe s1
  refine method_meetsIn F.slot_dict_items F.entry_dict_items rfl (PySem.evalArgs_none ⟨rfl, hdo.typeIs, F.args_dict_items_1 _, _, meets_dict_items (mixKind X.prog X.w) d hs0, ⟨vs, hdo⟩, ?_⟩)
  refine Calls.spliced_nil ?_
  obtain ⟨o, es, ep, ho, hx, hdat, _, prs, _⟩ := hdo
  have les : es.size = (kvI m).length := by
    rw [lk, ← prs.length, Array.length_toList]
  have lm : (kvI m).length = m.length := by unfold kvI; rw [List.length_map]
  have raw : DT.Raw (s1.heap.push { cls := .type "dict_items", data := .fields #[.ref d] }) d es ep := ⟨o, Heap.get?_push_of_some _ ho, hx, hdat⟩
  refine DT.sortedI (es := es) (ep := ep) (s := { s1 with heap := s1.heap.push { cls := .type "dict_items", data := .fields #[.ref d] } }) (I1.ok.hd hc) ⟨_, Heap.get?_push_size _ rfl, rfl, rfl⟩ raw (by rw [les]; exact hz) fun h' tk as hk hlt hl hG => ?_
  have ea : EachIs (PrI h') as m := each_made (es := es.toList) kv prs (by rw [hl, Array.length_toList]) fun j a hj => by
    obtain ⟨en, h1, h2⟩ := hG.pairs j a hj
    exact ⟨en, by rw [Array.getElem?_toList]; exact h1, h2⟩
  have asl : ∀ a ∈ as, s1.heap.objs.size < a ∧ a < h'.objs.size := fun a ha => by
    have h1 : (s1.heap.push { cls := .type "dict_items", data := .fields #[.ref d] }).objs.size < a := hG.above a ha
    have h2 := hG.there ha
    rw [Heap.size_push] at h1
    exact ⟨Nat.lt_of_succ_lt h1, h2⟩
  generalize hh2 : h'.push { cls := .type "list", data := .seq (as.map Value.ref).toArray } = h2
  have k2 : ∀ b o, h'.get? b = some o → h2.get? b = some o := fun b o e => by rw [← hh2]; exact Heap.get?_push_of_some _ e
  have at2 : h2.get? h'.objs.size = some (seqObj "list" (as.map Value.ref).toArray 0) := by rw [← hh2]; exact Heap.get?_push_size _ rfl
  have ea2 := each_val ea
  have lb : (as.map Value.ref).length = m.length := by rw [List.length_map, hl, les, lm]
  let h3 := sortingHeap h2 h'.objs.size (as.map Value.ref)
  have e3 : EachIs (fun v b => ∃ as, Reads h3 v (pe b) as) (as.map Value.ref) m := ea2.mono fun v b ⟨a, ev, ha, pr⟩ => by
    rw [ev]
    exact (pr.keeps fun o z => sortingHeap_old (Nat.ne_of_lt (asl a ha).2) (k2 _ _ z)).reads
  have dep : ∀ b, b ∈ m → X.A.in1.in1.units + (pe b).depth < cLine := fun b _ => by
    have := dp b
    have h1 : Enc.deep (Int × Int) = 1 := rfl
    have h2 : X.A.in1.in1.units = X.A.units + 2 := rfl
    omega
  have S : SortsAt X.prog X.w X.A.in1.in1 { s1 with heap := h3, toks := tk } (dataKind h3 (m.map pe)) (as.map Value.ref) := SortsAt.data (s := { s1 with heap := h3, toks := tk }) (each_map (R := fun v d => ∃ as, Reads h3 v d as) pe e3) (.of EncO.al) (.tuples fun a => ⟨_, _, rfl⟩) (bound_map (A := X.A.in1.in1) fun x hx => by have := dep x hx; omega)
  have hL : (as.map Value.ref).length ≤ sizeLine := by rw [lb, ← lm]; exact hz
  refine wpAny_call_entry slot_list_sort ⟨_, at2, rfl⟩ entry_list_sort (list_sort_vals (s := { s1 with heap := h2, toks := tk }) at2 S hL ⟨_, rfl, ?_⟩) (args_list_sort _)
  have eo := sortVals_data (h' := h3) (enc := pe) false ea2 e3 (.of EncO.al)
  generalize hout : sortVals (dataKind h3 (m.map pe)) false (as.map Value.ref) (as.map Value.ref) = out at eo ⊢
  obtain ⟨ts, rfl, hin, ets⟩ := each_addr eo
  generalize hh4 : sortedHeap h2 h'.objs.size (as.map Value.ref) (List.toArray (ts.map Value.ref)) = h4
  have k4 : ∀ b o, b ≠ h'.objs.size → h2.get? b = some o → h4.get? b = some o := fun b o hb e => by
    rw [← hh4, sortedHeap_old hb (Heap.lt_size e)]
    exact e
  obtain ⟨n4, at4⟩ : ∃ n, h4.get? h'.objs.size = some (seqObj "list" (List.toArray (ts.map Value.ref)) n) := by
    rw [← hh4]
    exact sortedHeap_at at2
  have up4 : ∀ b o, s1.heap.get? b = some o → h4.get? b = some o := fun b o e => by
    have e1 := hk b o (Heap.get?_push_of_some _ e)
    exact k4 b o (Nat.ne_of_lt (Heap.lt_size e1)) (k2 _ _ e1)
  have I4 : Inv X pins σ H1 { s1 with heap := h4, toks := tk } := I1.kept (t' := tk) up4
  have p4 : ∀ a b, a ∈ as → PrI h' a b → PrI h4 a b := fun a b ha x => x.keeps fun o z => k4 a o (Nat.ne_of_lt (asl a ha).2) (k2 _ _ z)
  have prm := List.mergeSort_perm m (dataLe false pe)
  have lts : ts.length = m.length := by rw [ets.length, prm.length_eq]
  have okL : ∀ q ∈ (h'.objs.size, HO.lst (ts.map V.ref)) :: as.map (fun a => (a, hoI h4 a)), s1.heap.objs.size ≤ q.1 ∧ H1 q.1 = none ∧ ∀ H2, ObjOk X.prog X.w H2 h4 q.1 q.2 := by
    intro q hq
    rcases List.mem_cons.mp hq with rfl | hq
    · have hle : s1.heap.objs.size ≤ h'.objs.size := by
        have hlt : (s1.heap.push { cls := .type "dict_items", data := .fields #[.ref d] }).objs.size < h'.objs.size := hlt
        rw [Heap.size_push] at hlt
        omega
      exact ⟨hle, I1.hok.fresh hle, fun H2 => ⟨by rw [List.length_map, lts, ← lm]; exact hz, ts.map Value.ref, n4, LiI.vals_refs ts, at4⟩⟩
    · obtain ⟨a, ha, rfl⟩ := List.mem_map.mp hq
      obtain ⟨v, b, hb, pr⟩ : ∃ v b, True ∧ PrI h' a b := by
        obtain ⟨b, _, pr⟩ := ea.left a ha
        exact ⟨0, b, trivial, pr⟩
      have hle := Nat.le_of_lt (asl a ha).1
      exact ⟨hle, I1.hok.fresh hle, fun H2 => (p4 a b ha pr).ho.choose_spec.2.2 H2⟩
  have nd : (((h'.objs.size, HO.lst (ts.map V.ref)) :: as.map (fun a => (a, hoI h4 a))).map (·.1)).Nodup := by
    rw [List.map_cons, List.map_map, List.nodup_cons]
    have e : as.map ((·.1) ∘ fun a => (a, hoI h4 a)) = as := by
      rw [show ((·.1) ∘ fun a => (a, hoI h4 a)) = (id : Addr → Addr) from rfl, List.map_id]
    rw [e]
    exact ⟨fun z => Nat.lt_irrefl _ (asl _ z).2, hG.rise.imp fun h => Nat.ne_of_lt h⟩
  obtain ⟨H5, I5, sm, at5⟩ := takeZ I1 _ H1 I4 nd okL
  refine ⟨.ref h'.objs.size, H5, I5, rfl, q H5 _ ts (m.mergeSort (dataLe false pe)) sm (okL _ List.mem_cons_self).2.1 (fun t ht => (okL (t, hoI h4 t) (List.mem_cons_of_mem _ (List.mem_map.mpr ⟨t, hin t ht, rfl⟩))).2.1) (at5 _ List.mem_cons_self) ?_ prm (merge_asc m)⟩
  have ets2 : EachIs (fun t b => t ∈ ts ∧ PrI h' t b) ts (m.mergeSort (dataLe false pe)) := by
    clear at5 okL nd at4 hh4 k4 up4 hout eo
    have key : ∀ {us : List Addr} {l : List (Int × Int)}, EachIs (PrI h') us l → EachIs (fun t b => t ∈ us ∧ PrI h' t b) us l := by
      intro us l h
      induction h with
      | nil => exact .nil
      | cons x t ih => exact .cons ⟨List.mem_cons_self, x⟩ (ih.mono fun _ _ ⟨a, b⟩ => ⟨List.mem_cons_of_mem _ a, b⟩)
    exact key ets
  refine ets2.mono fun t b ⟨ht, pr⟩ => ?_
  obtain ⟨o', d1, d2, _⟩ := (p4 t b (hin t ht) pr).ho
  have := at5 (t, hoI h4 t) (List.mem_cons_of_mem _ (List.mem_map.mpr ⟨t, hin t ht, rfl⟩))
  refine ⟨o', d1, ?_⟩
  rw [← d2]
  exact this
/-- sorted(d.items()), by data -/
def wSortIt (wo : DL.WE) : DL.WE := fun sl M Q E => wo sl M (fun d M1 => ∃ m : List (Int × Int), d = dicI m ∧ ∀ out : List (Int × Int), out.Perm m → Asc out → Q (.lst (out.map enc)) M1) E
theorem rep_pairs {H : Hp} : ∀ {ts : List Addr} {out : List (Int × Int)}, EachIs (fun t b => ∃ o : Obj, o.dict = none ∧ H t = some (.frz o (.tup [.int b.1, .int b.2]))) ts out → RepAll H (ts.map V.ref) (out.map enc)
  | _, _, .nil => .nil
  | _, _, .cons ⟨o, h1, h2⟩ t => .cons (.tup h2 h1 (.cons (.int _) (.cons (.int _) .nil))) (rep_pairs t)
theorem d_sortIt {wo : DL.WE} (hc : X.calm = true) (hu : X.A.units + 150 < cLine) (he : PE X e (low W wo)) (hg : Gl X "sorted") (hm : X.mg "sorted" = none) (hbase : attributeBase e "items" X.env (eval e X.env) = eval e X.env := by rfl) (hline : (apos.endLine == cpos.line) = true := by rfl)
    (hs : starEach [.Call (.Attribute e "items" apos) [] [] cpos] X.env = (false, eval (.Call (.Attribute e "items" apos) [] [] cpos) X.env) :: starEach [] X.env := by rfl) :
    PE X (.Call (.Name "sorted" p) [.Call (.Attribute e "items" apos) [] [] cpos] [] pos) (low W (wSortIt wo)) := by
  refine PE.imp (pe_sortIt hc hu he hg hm (by kernel_rfl) hbase hline hs) fun σ H Q ⟨sl, Hf, M, Qd, Xd, rl, w, k, kx⟩ => ⟨sl, Hf, M, _, Xd, rl, w, fun d Hf1 M1 v H1 s1 r1 ⟨m, hd, w1⟩ => ?_, kx⟩
  subst hd
  obtain ⟨a, rfl, ha⟩ := RepT.dicI (M := M1) s1.wd.le (.fz r1)
  refine ⟨a, m, rfl, ha, fun H' p ts out sm hp hts hl ets pm asc => ?_⟩
  have g := Grow.all s1.wd.le sm
  refine k _ _ M1 _ _ (s1.trans (Stp.grow s1.wd g)) (.lst (by rw [grownH_new s1.wd.le hp]; exact hl) (rep_pairs ?_)) (w1 out pm asc)
  have key : ∀ {us : List Addr} {l : List (Int × Int)}, (∀ t ∈ us, H1 t = none) → EachIs (fun t b => ∃ o : Obj, o.dict = none ∧ H' t = some (.frz o (.tup [.int b.1, .int b.2]))) us l → EachIs (fun t b => ∃ o : Obj, o.dict = none ∧ grownH Hf1 H1 H' t = some (.frz o (.tup [.int b.1, .int b.2]))) us l := by
    intro us l hn h
    induction h with
    | nil => exact .nil
    | cons x t ih =>
      obtain ⟨o, x1, x2⟩ := x
      exact .cons ⟨o, x1, by rw [grownH_new s1.wd.le (hn _ List.mem_cons_self)]; exact x2⟩ (ih fun t ht => hn t (List.mem_cons_of_mem _ ht))
  exact key hts ets
end
end DL
/-! DD3: sorted(set(pairs)), len(set(numbers)). -/
namespace DL
open PySem PySem.Spec PyProof.Rows L2 Enc
/-- pairs in strict order -/
def ltP (p q : Int × Int) : Prop := p.1 < q.1 ∨ (p.1 = q.1 ∧ p.2 < q.2)
def SmP (p : Int × Int) : Prop := 0 ≤ p.1 ∧ p.1 < 64 ∧ 0 ≤ p.2 ∧ p.2 < 64
abbrev prL (p : Int × Int) : List Int := [p.1, p.2]
theorem prL_inj {p q : Int × Int} (h : prL p = prL q) : p = q := by
  simp only [prL, List.cons.injEq, and_true] at h
  exact Prod.ext h.1 h.2
section
variable {X : Cx} {W : WX} {e : Expr} {pos : Pos}
/-- the addresses of a list of pairs -/
theorem pair_keys {Hf H : Hp} (le : Same Hf H) {K : PySem.W.Frag} : ∀ {l : List (Int × Int)} {xs : List V}, RepAll Hf xs (l.map enc) → ∃ ks : List (Addr × List Int), xs = ks.map (fun p => V.ref p.1) ∧ (∀ p ∈ ks, SqT K H p.1 (p.2.map V.int) ∧ ∃ b ∈ l, p.2 = prL b ∧ Rep Hf (.ref p.1) (enc b)) ∧ ks.map (·.2) = l.map prL
  | [], _, .nil => ⟨[], rfl, fun _ h => (nomatch h), rfl⟩
  | b :: l, _, .cons h t => by
    obtain ⟨ks, rfl, h1, h2⟩ := pair_keys le (K := K) t
    have hr := h
    cases h with
    | tup ha hn r =>
      cases r with
      | cons r1 r2 =>
        cases r2 with
        | cons r2 r3 =>
          cases r3
          cases r1
          cases r2
          rename_i a o
          refine ⟨(a, prL b) :: ks, rfl, fun p hp => ?_, by rw [List.map_cons, h2]; rfl⟩
          rcases List.mem_cons.mp hp with rfl | hp
          · exact ⟨.inl (rd_mono le (.inr ⟨_, ha⟩)), b, List.mem_cons_self, rfl, hr⟩
          · obtain ⟨z1, c, hc, z2⟩ := h1 p hp
            exact ⟨z1, c, List.mem_cons_of_mem _ hc, z2⟩
/-- rows back to pairs -/
theorem rows_pairs {Hf : Hp} {l : List (Int × Int)} : ∀ {L : List (Addr × List Int)}, (∀ p ∈ L, ∃ b ∈ l, p.2 = prL b ∧ Rep Hf (.ref p.1) (enc b)) → ∃ out : List (Int × Int), L.map (·.2) = out.map prL ∧ RepAll Hf (L.map fun q => V.ref q.1) (out.map enc) ∧ ∀ b ∈ out, b ∈ l
  | [], _ => ⟨[], rfl, .nil, fun _ h => nomatch h⟩
  | p :: L, h => by
    obtain ⟨b, hb, e, r⟩ := h p List.mem_cons_self
    obtain ⟨out, e1, r1, h1⟩ := rows_pairs fun q hq => h q (List.mem_cons_of_mem _ hq)
    refine ⟨b :: out, by rw [List.map_cons, List.map_cons, e, e1], .cons r r1, fun c hc => ?_⟩
    rcases List.mem_cons.mp hc with rfl | hc
    · exact hb
    · exact h1 c hc
def wSortSetP (wr : WA) : DL.WE := fun sl M Q E => wr sl M (fun ds M1 => ∃ l : List (Int × Int), ds.map (der M1) = [.lst (l.map enc)] ∧ l.length < 64 ∧ (∀ b ∈ l, SmP b) ∧ ∀ out : List (Int × Int), out.Pairwise ltP → (∀ b, b ∈ out ↔ b ∈ l) → Q (.lst (out.map enc)) M1) E
theorem d_sortSetP {p p1 p2 : Pos} {wr : WA} (hc : X.calm = true) (hu : X.A.units + 150 < cLine) (hg : Gl X "sorted") (hm : X.mg "sorted" = none) (hg2 : Gl X "set") (hm2 : X.mg "set" = none) (ha : PA X [e] (lowA W wr))
    (he : starEach [e] X.env = (false, eval e X.env) :: starEach [] X.env := by rfl) (hp2 : (backTo p2 (starEach [] X.env)).any (·.1) = false := by rfl)
    (he1 : starEach [.Call (.Name "set" p1) [e] [] p2] X.env = (false, eval (.Call (.Name "set" p1) [e] [] p2) X.env) :: starEach [] X.env := by rfl) (hp : (backTo pos (starEach [] X.env)).any (·.1) = false := by rfl) :
    PE X (.Call (.Name "sorted" p) [.Call (.Name "set" p1) [e] [] p2] [] pos) (low W (wSortSetP wr)) := by
  have one : PE X (.Call (.Name "set" p1) [e] [] p2) (tCB (rSetOfT X.K X.prog X.w) (lowA W wr)) := pe_callTy (cr_setOfT hc (by omega)) hg2 hm2 (by kernel_rfl) ha (by decide) (by decide) he hp2
  refine PE.imp (pe_callB (cr_sortedT hc) hg hm (by kernel_rfl) (pa_cons one pa_nil he1) (by decide) (by decide) he1 hp) fun σ H Q ⟨sl, Hf, M, Qd, Xd, rl, w, k, kx⟩ => ⟨sl, Hf, M, _, Xd, rl, w, fun ds Hf1 M1 vs H1 s1 r1 w1 => ?_, kx⟩
  obtain ⟨l, ed, h64, hsm, q⟩ := w1
  have rt := RepTs.of s1.wd r1
  rw [ed] at rt
  obtain ⟨v, rfl, h⟩ := rt.one
  obtain ⟨a, xs, rfl, hl, r⟩ := h.lst s1.wd.le
  obtain ⟨ks, rfl, hk, ek⟩ := pair_keys s1.wd.le (K := X.K) r
  have lk : ks.length = l.length := by
    have := congrArg List.length ek
    simpa using this
  refine ⟨a, ks, rfl, .of hl, fun p hp => (hk p hp).1, by omega, fun s L hn hsub hall => ?_⟩
  have f1 := s1.wd.free hn
  have s3 : Stp Hf1 M1 H1 Hf1 M1 (upd H1 s (SetTO X.prog X.w s L)) := (Stp.refl s1.wd).other hn f1.2 f1.1
  have hk3 : ∀ p ∈ L, SqT X.K (upd H1 s (SetTO X.prog X.w s L)) p.1 (p.2.map V.int) := fun p hp => by
    obtain ⟨_, b, _, e, rr⟩ := hk p (hsub p hp)
    rw [e]
    cases rr with
    | tup ha hn r =>
      cases r with
      | cons r1 r2 =>
        cases r2 with
        | cons r2 r3 =>
          cases r3
          cases r1
          cases r2
          exact .inl (rd_mono s3.wd.le (.inr ⟨_, ha⟩))
  refine ⟨s, L, 2, 64, rfl, upd_same, hk3, by decide, fun p hp => ?_, fun L' t pm nd _ pw ht => ?_⟩
  · obtain ⟨_, b, hb, e, _⟩ := hk p (hsub p hp)
    obtain ⟨b1, b2, b3, b4⟩ := hsm b hb
    rw [e]
    refine ⟨rfl, fun z hz => ?_⟩
    simp only [prL, List.mem_cons, List.not_mem_nil, or_false] at hz
    rcases hz with rfl | rfl
    · exact ⟨b1, b2⟩
    · exact ⟨b3, b4⟩
  · obtain ⟨out, eo, ro, ho⟩ := rows_pairs (Hf := Hf1) (l := l) (L := L') fun p hp => (hk p (hsub p (pm.mem_iff.mp hp))).2
    have g := Grow.one (o := .lst (L'.map fun q => V.ref q.1)) s3.wd.le ht
    refine k _ _ M1 _ _ ((s1.trans s3).trans (Stp.grow s3.wd g)) (.lst upd_same (ro.mono g.fz)) (q out ?_ fun b => ⟨ho b, fun hb => ?_⟩)
    · have nd2 : (out.map prL).Nodup := by rw [← eo]; exact nd
      have pw2 : (out.map prL).Pairwise (fun q r => TS.code 64 q ≤ TS.code 64 r) := by
        rw [← eo, List.pairwise_map]
        exact pw
      have both := List.pairwise_map.mp (pw2.and nd2)
      refine both.imp_of_mem fun {x y} hx hy ⟨h1, h2⟩ => ?_
      obtain ⟨x1, x2, x3, x4⟩ := hsm x (ho x hx)
      obtain ⟨y1, y2, y3, y4⟩ := hsm y (ho y hy)
      exact pair_lt h1 h2 ⟨x1, x2⟩ ⟨x3, x4⟩ ⟨y1, y2⟩ ⟨y3, y4⟩
    · have h1 : prL b ∈ ks.map (·.2) := by rw [ek]; exact List.mem_map.mpr ⟨b, hb, rfl⟩
      obtain ⟨p, hp, e⟩ := List.mem_map.mp h1
      have h2 := hall p hp
      rw [e, ← (pm.map (·.2)).mem_iff, eo] at h2
      obtain ⟨c, hc', e2⟩ := List.mem_map.mp h2
      rw [← prL_inj e2]
      exact hc'
/-- len(set(xs)), whole numbers -/
def rLenSet (w : World) : List V → Hp → VK → Prop := fun vs H Q => ∃ (a : Addr) (S : Int → Bool) (n : Nat), vs = [V.ref a] ∧ H a = some (SetO w a S n) ∧ ∀ ks : List Int, ks.Nodup → (∀ k, S k = true ↔ k ∈ ks) → ks.length = n → Q (.int (n : Nat)) H
theorem cr_lenSet : CallR X (.builtin "len") (rLenSet X.w) := by
  rintro pins s σ H vs us Q I r ⟨a, S, n, rfl, ha, q⟩
  rw [Vals.ref1 r]
  obtain ⟨o, es, ep, t, ho, hex, hd, _, nd, mem, hs, hf, hn, _⟩ := setO_get I ha
  have e1 : (es.toList.map keyOf).length = n := by rw [List.length_map, Array.length_toList, hn]
  refine call_len_set ho hex hd hf (by unfold scanBound at hs; omega) ⟨.int (n : Nat), H, I.tok _, ⟨_, by rw [hn]⟩, q _ nd mem e1⟩
def wLenSet (wr : WA) : DL.WE := fun sl M Q E => wr sl M (fun ds M1 => ∃ ns : List Int, ds.map (der M1) = [.lst (ns.map Dd.int)] ∧ ns.length < 60 ∧ ∀ ks : List Int, ks.Nodup → (∀ k, k ∈ ks ↔ k ∈ ns) → Q (.int (ks.length : Nat)) M1) E
theorem d_lenSet {p p1 p2 : Pos} {wr : WA} (hc : X.calm = true) (hg : Gl X "len") (hm : X.mg "len" = none) (hg2 : Gl X "set") (hm2 : X.mg "set" = none) (ha : PA X [e] (lowA W wr))
    (he : starEach [e] X.env = (false, eval e X.env) :: starEach [] X.env := by rfl) (hp2 : (backTo p2 (starEach [] X.env)).any (·.1) = false := by rfl)
    (he1 : starEach [.Call (.Name "set" p1) [e] [] p2] X.env = (false, eval (.Call (.Name "set" p1) [e] [] p2) X.env) :: starEach [] X.env := by rfl) (hp : (backTo pos (starEach [] X.env)).any (·.1) = false := by rfl) :
    PE X (.Call (.Name "len" p) [.Call (.Name "set" p1) [e] [] p2] [] pos) (low W (wLenSet wr)) := by
  have one : PE X (.Call (.Name "set" p1) [e] [] p2) (tCB (rSetL X.K X.w) (lowA W wr)) := pe_callTy (cr_setL hc) hg2 hm2 (by kernel_rfl) ha (by decide) (by decide) he hp2
  refine PE.imp (pe_callB cr_lenSet hg hm (by kernel_rfl) (pa_cons one pa_nil he1) (by decide) (by decide) he1 hp) fun σ H Q ⟨sl, Hf, M, Qd, Xd, rl, w, k, kx⟩ => ⟨sl, Hf, M, _, Xd, rl, w, fun ds Hf1 M1 vs H1 s1 r1 w1 => ?_, kx⟩
  obtain ⟨ns, ed, h60, q⟩ := w1
  have rt := RepTs.of s1.wd r1
  rw [ed] at rt
  obtain ⟨v, rfl, h⟩ := rt.one
  obtain ⟨l, xs, rfl, hl, r⟩ := h.lst s1.wd.le
  cases ints_rep r
  refine ⟨l, ns, rfl, .of hl, h60, fun p c hn hcl => ?_⟩
  refine ⟨p, _, c, rfl, upd_same, fun ks nd mem el => ?_⟩
  have f1 := s1.wd.free hn
  have s3 : Stp Hf1 M1 H1 Hf1 M1 (upd H1 p (SetO X.w p (fun j => decide (j ∈ ns)) c)) := (Stp.refl s1.wd).other hn f1.2 f1.1
  have q1 := q ks nd fun z => by rw [← mem]; simp
  rw [el] at q1
  exact k _ _ M1 _ _ (s1.trans s3) (.int _) q1
end
/-- fewer distinct ones than items: a repetition -/
theorem distinct_lt {ks ns : List Int} (nd : ks.Nodup) (mem : ∀ k, k ∈ ks ↔ k ∈ ns) : ks.length < ns.length ↔ ¬ ns.Nodup := by
  constructor
  · intro h nn
    have := (List.perm_ext_iff_of_nodup nd nn).mpr mem
    rw [this.length_eq] at h
    omega
  · intro h
    have sub : ∀ (a b : List Int), a.Nodup → (∀ k ∈ a, k ∈ b) → a.length ≤ b.length := by
      intro a
      induction a with
      | nil => intro b _ _; exact Nat.zero_le _
      | cons x a ih =>
        intro b na hb
        rw [List.nodup_cons] at na
        have hx := hb x List.mem_cons_self
        have := ih (b.erase x) na.2 fun k hk => (List.mem_erase_of_ne (fun e : k = x => na.1 (by rw [← e]; exact hk))).2 (hb k (List.mem_cons_of_mem _ hk))
        have e := List.length_erase_of_mem hx
        have := List.length_pos_of_mem hx
        rw [List.length_cons]
        omega
    -- drop a repeated one
    have rep : ∀ l : List Int, ¬ l.Nodup → ∃ l' : List Int, l'.length < l.length ∧ ∀ k ∈ l, k ∈ l' := by
      intro l
      induction l with
      | nil => intro h; exact absurd List.nodup_nil h
      | cons x l ih =>
        intro h
        by_cases hx : x ∈ l
        · exact ⟨l, Nat.lt_succ_self _, fun k hk => by
            rcases List.mem_cons.mp hk with rfl | hk
            · exact hx
            · exact hk⟩
        · obtain ⟨l', h1, h2⟩ := ih fun nl => h (List.nodup_cons.mpr ⟨hx, nl⟩)
          refine ⟨x :: l', by simpa using h1, fun k hk => ?_⟩
          rcases List.mem_cons.mp hk with rfl | hk
          · exact List.mem_cons_self
          · exact List.mem_cons_of_mem _ (h2 k hk)
    obtain ⟨l', h1, h2⟩ := rep ns h
    have := sub ks l' nd fun k hk => h2 k ((mem k).mp hk)
    omega
theorem ltP_irrefl (p : Int × Int) : ¬ ltP p p := by unfold ltP; omega
theorem ltP_trans {p q r : Int × Int} (h : ltP p q) (k : ltP q r) : ltP p r := by unfold ltP at *; omega
/-- two ascending lists of the same pairs -/
theorem ascP_uniq : ∀ {a b : List (Int × Int)}, a.Pairwise ltP → b.Pairwise ltP → (∀ k, k ∈ a ↔ k ∈ b) → a = b
  | [], [], _, _, _ => rfl
  | [], y :: b, _, _, h => absurd ((h y).mpr List.mem_cons_self) List.not_mem_nil
  | x :: a, [], _, _, h => absurd ((h x).mp List.mem_cons_self) List.not_mem_nil
  | x :: a, y :: b, ha, hb, h => by
    rw [List.pairwise_cons] at ha hb
    have e : x = y := by
      have h1 := (h x).mp List.mem_cons_self
      have h2 := (h y).mpr List.mem_cons_self
      rcases List.mem_cons.mp h1 with e | h1
      · exact e
      · rcases List.mem_cons.mp h2 with e | h2
        · exact e.symm
        · exact absurd (ltP_trans (ha.1 y h2) (hb.1 x h1)) (ltP_irrefl x)
    subst e
    rw [ascP_uniq ha.2 hb.2 fun k => ?_]
    have := h k
    simp only [List.mem_cons] at this
    constructor
    · intro hk
      rcases this.mp (.inr hk) with e | z
      · rw [e] at hk; exact absurd (ha.1 x hk) (ltP_irrefl x)
      · exact z
    · intro hk
      rcases this.mpr (.inr hk) with e | z
      · rw [e] at hk; exact absurd (hb.1 x hk) (ltP_irrefl x)
      · exact z
end DL
/-! DP1: dicts of conditions, lines of rules, plainly. -/
namespace DL
open PySem PySem.Spec PyProof.Rows L2 Enc TL
theorem g_dict (l : List (Int × Int)) : gDict [.tup (l.map enc)] = some (dicI (mrgI [] l)) := by
  show (prsD (l.map enc)).map _ = _
  rw [prsD_enc]
  rfl
theorem mem_putI {m : List (Int × Int)} {k v : Int} {x : Int × Int} (h : x ∈ putI m k v) : x ∈ m ∨ x = (k, v) := by
  unfold putI at h
  split at h
  · obtain ⟨y, hy, e⟩ := List.mem_map.mp h
    split at e
    · rename_i hk
      exact .inr (by rw [← e, ← hk])
    · exact .inl (by rw [← e]; exact hy)
  · rw [List.mem_append, List.mem_singleton] at h
    exact h
theorem keys_putI {m : List (Int × Int)} {k v : Int} (h : (m.map (·.1)).Nodup) : ((putI m k v).map (·.1)).Nodup := by
  unfold putI
  split
  · rw [List.map_map]
    have e : ((·.1) ∘ fun p : Int × Int => if p.1 = k then (p.1, v) else p) = (·.1) := by
      funext p
      simp only [Function.comp]
      split <;> rfl
    rw [e]
    exact h
  · rename_i hn
    rw [List.map_append, List.nodup_append]
    refine ⟨h, List.nodup_cons.mpr ⟨List.not_mem_nil, .nil⟩, fun a ha b hb e => ?_⟩
    rw [List.map_cons, List.map_nil, List.mem_singleton] at hb
    subst hb e
    obtain ⟨p, hp, e⟩ := List.mem_map.mp ha
    exact hn (List.any_eq_true.mpr ⟨p, hp, decide_eq_true e⟩)
theorem mrgI_ok : ∀ {l m : List (Int × Int)}, (m.map (·.1)).Nodup → ((mrgI m l).map (·.1)).Nodup ∧ ∀ x ∈ mrgI m l, x ∈ m ∨ x ∈ l
  | [], m, h => ⟨h, fun _ hx => .inl hx⟩
  | p :: l, m, h => by
    obtain ⟨h1, h2⟩ := mrgI_ok (l := l) (keys_putI (k := p.1) (v := p.2) h)
    refine ⟨h1, fun x hx => ?_⟩
    rcases h2 x hx with z | z
    · rcases mem_putI z with z | z
      · exact .inl z
      · exact .inr (by rw [z]; exact List.mem_cons_self)
    · exact .inr (List.mem_cons_of_mem _ z)
/-- conditions of two put together by a dict, its items sorted -/
theorem union_ok {v : Int} {a b out : Case} (ha : InB v a) (hb : InB v b) (hp : out.Perm (mrgI [] (a ++ b))) (hs : Asc out) : InB v out ∧ Up out := by
  obtain ⟨h1, h2⟩ := mrgI_ok (l := a ++ b) (m := []) .nil
  refine ⟨fun x hx => ?_, up_sorted hp (asc_pairs hs) h1⟩
  rcases h2 x (hp.mem_iff.mp hx) with z | z
  · cases z
  · rcases List.mem_append.mp z with z | z
    · exact ha x z
    · exact hb x z
/-- the parts of a line -/
theorem line_cat {z : Rule} (h : okRule z = true) : ∃ A : Str, gJoin (.str (Str.ofString "")) (.lst (z.1.map fun c => .str (condS c ++ Str.ofString " "))) = some (.str A) ∧ A.length + (Str.ofString "gives ").length ≤ 1000000 ∧
    (A ++ Str.ofString "gives ").length + (Str.ofString (toString z.2)).length ≤ 1000000 ∧ ((A ++ Str.ofString "gives ") ++ Str.ofString (toString z.2)).length + (Str.ofString "\n").length ≤ 1000000 ∧
    ((A ++ Str.ofString "gives ") ++ Str.ofString (toString z.2)) ++ Str.ofString "\n" = lineOf z ++ Str.ofString "\n" := by
  have h2 := h
  unfold okRule at h2
  rw [Bool.and_eq_true] at h2
  have hl5 := upC_len h2.1
  have hc := h2.1
  unfold okCase at hc
  rw [Bool.and_eq_true, List.all_eq_true] at hc
  have R := res_ok h2.2
  have cl : ∀ c ∈ z.1, (condS c ++ Str.ofString " ").length ≤ 4 := fun c hm => by
    rw [strLen_append, TL.len_tl, (cond_tl (hc.1 c hm)).1]
    have : (Str.ofString " ").length = 1 := by decide +kernel
    simp
    omega
  have e0 : (z.1.map fun c => Dd.str (condS c ++ Str.ofString " ")) = (z.1.map fun c => condS c ++ Str.ofString " ").map Dd.str := by rw [List.map_map]; rfl
  have sm : ((z.1.map fun c => condS c ++ Str.ofString " ").map (·.length)).sum ≤ 20 := by
    have := sum_le (l := (z.1.map fun c => condS c ++ Str.ofString " ").map (·.length)) (b := 4) fun x hx => by
      rw [List.map_map] at hx
      obtain ⟨c, hc', rfl⟩ := List.mem_map.mp hx
      exact cl c hc'
    rw [List.length_map, List.length_map] at this
    omega
  have hj := g_join (a := Str.ofString "") (ys := z.1.map fun c => condS c ++ Str.ofString " ") (by
    have : (Str.ofString "").length = 0 := by decide +kernel
    rw [this, Nat.mul_zero]
    omega)
  have et : tl (Txt.join (Str.ofString "") (z.1.map fun c => condS c ++ Str.ofString " ")) = (z.1.map fun c => tl (condS c) ++ [32]).flatten := by
    rw [join_eq, tl_join]
    have : tl (Str.ofString "") = [] := by decide +kernel
    rw [this, joinL_nil, List.map_map]
    have e2 : (tl ∘ fun c => condS c ++ Str.ofString " ") = fun c => tl (condS c) ++ [32] := by
      funext c
      show tl (condS c ++ Str.ofString " ") = _
      rw [tl_append]
      have : tl (Str.ofString " ") = [32] := by decide +kernel
      rw [this]
    rw [e2]
  have lA : (Txt.join (Str.ofString "") (z.1.map fun c => condS c ++ Str.ofString " ")).length ≤ 20 := by
    rw [TL.len_tl, et]
    have : ∀ l : Case, (∀ c ∈ l, okC c = true) → (l.map fun c => tl (condS c) ++ [32]).flatten.length = 4 * l.length := by
      intro l
      induction l with
      | nil => intro _; rfl
      | cons c l ih =>
        intro h
        rw [List.map_cons, List.flatten_cons, List.length_append, ih fun x hx => h x (List.mem_cons_of_mem _ hx), List.length_append, (cond_tl (h c List.mem_cons_self)).1]
        simp
        omega
    rw [this z.1 hc.1]
    omega
  have l1 : (Str.ofString "gives ").length = 6 := by decide +kernel
  have l2 : (Str.ofString "\n").length = 1 := by decide +kernel
  have l3 : (Str.ofString (toString z.2)).length ≤ 2 := by
    have := R.len
    rw [TL.len_tl]
    exact this.2
  refine ⟨_, by rw [e0]; exact hj, by omega, by rw [strLen_append]; omega, by rw [strLen_append, strLen_append]; omega, ?_⟩
  apply ext_tl
  rw [tl_append, tl_append, tl_append, tl_append, et, tl_line]
  congr 1
  unfold wordsOf
  rw [List.map_append]
  have e3 : tl (Str.ofString "gives ") = [103, 105, 118, 101, 115, 32] := by decide +kernel
  have e4 : tl (Str.ofString "gives") = [103, 105, 118, 101, 115] := by decide +kernel
  rw [List.map_cons, List.map_cons, List.map_nil, e3, e4, List.map_map]
  have key : ∀ l : Case, joinL [32] (l.map (tl ∘ condS) ++ [[103, 105, 118, 101, 115], tl (resS z.2)]) = (l.map fun c => tl (condS c) ++ [32]).flatten ++ ([103, 105, 118, 101, 115, 32] ++ tl (resS z.2)) := by
    intro l
    induction l with
    | nil => rfl
    | cons c l ih =>
      have : ∃ p q, l.map (tl ∘ condS) ++ [[103, 105, 118, 101, 115], tl (resS z.2)] = p :: q := by
        cases l with
        | nil => exact ⟨_, _, rfl⟩
        | cons d l => exact ⟨_, _, rfl⟩
      obtain ⟨p, q, e⟩ := this
      rw [List.map_cons, List.cons_append, e]
      show tl (condS c) ++ ([32] ++ joinL [32] (p :: q)) = _
      rw [← e, ih]
      simp
  rw [key z.1, ← List.append_assoc]
  rfl
end DL
/-! DP2: enumerate, slices, plainly; first matching rules, rules that never decide. -/
namespace DL
open PySem PySem.Spec PyProof.Rows L2 Enc TL
section
variable {α : Type}
/-- numbered items, from k on -/
def enF (f : α → Dd) : List α → Nat → List Dd
  | [], _ => []
  | a :: l, k => .utp [.int (k : Int), f a] :: enF f l (k + 1)
theorem enF_get (f : α → Dd) : ∀ (l : List α) (k i : Nat), (enF f l k)[i]? = (l[i]?).map fun a => .utp [.int ((k + i : Nat) : Int), f a]
  | [], _, _ => rfl
  | a :: l, k, 0 => rfl
  | a :: l, k, i + 1 => by
    show (enF f l (k + 1))[i]? = _
    rw [enF_get f l (k + 1) i]
    simp only [List.getElem?_cons_succ]
    congr 1
    funext x
    rw [show k + 1 + i = k + (i + 1) by omega]
theorem enumD_enF (f : α → Dd) (l : List α) : enumD (l.map f) = enF f l 0 := by
  apply List.ext_getElem?
  intro i
  rw [enF_get]
  cases h : l[i]? with
  | none =>
    rw [List.getElem?_eq_none_iff] at h
    rw [List.getElem?_eq_none (by rw [enumD_length, List.length_map]; exact h)]
    rfl
  | some a =>
    rw [enumD_get (d := f a) (by rw [List.getElem?_map, h]; rfl)]
    simp
theorem enF_map (f : α → Dd) (x0 : α) : ∀ (l : List α) (k : Nat), enF f l k = (List.range l.length).map fun i => .utp [.int ((k + i : Nat) : Int), f (l.getD i x0)] := by
  intro l k
  apply List.ext_getElem?
  intro i
  rw [enF_get, List.getElem?_map]
  by_cases h : i < l.length
  · rw [List.getElem?_range h, List.getElem?_eq_getElem h]
    simp only [Option.map_some]
    rw [List.getD_eq_getElem?_getD, List.getElem?_eq_getElem h]
    rfl
  · rw [List.getElem?_eq_none (by omega), List.getElem?_eq_none (by rw [List.length_range]; omega)]
    rfl
theorem cut_take {xs : List α} {i : Int} (h0 : 0 ≤ i) : cutD xs none (some i) = xs.take i.toNat := by
  unfold cutD
  have e1 : HT.sIx xs.length 0 none = 0 := rfl
  have e2 : HT.sIx xs.length xs.length (some i) = min i.toNat xs.length := by
    unfold HT.sIx
    simp only []
    rw [if_neg (by omega)]
  rw [e1, e2, List.drop_zero, Nat.sub_zero]
  by_cases h : i.toNat ≤ xs.length
  · rw [Nat.min_eq_left h]
  · rw [Nat.min_eq_right (by omega), List.take_length, List.take_of_length_le (by omega)]
theorem cut_drop {xs : List α} {i : Int} (h0 : 0 ≤ i) : cutD xs (some i) none = xs.drop i.toNat := by
  unfold cutD
  have e1 : HT.sIx xs.length xs.length none = xs.length := rfl
  have e2 : HT.sIx xs.length 0 (some i) = min i.toNat xs.length := by
    unfold HT.sIx
    simp only []
    rw [if_neg (by omega)]
  rw [e1, e2]
  by_cases h : i.toNat ≤ xs.length
  · rw [Nat.min_eq_left h, List.take_of_length_le (by rw [List.length_drop]; exact Nat.le_refl _)]
  · rw [Nat.min_eq_right (by omega), List.drop_eq_nil_of_le (Nat.le_refl _), List.drop_eq_nil_of_le (by omega), List.take_nil]
theorem cut_map {β : Type} (f : α → β) (xs : List α) (lo hi : Option Int) : cutD (xs.map f) lo hi = (cutD xs lo hi).map f := by
  unfold cutD
  rw [List.length_map, List.map_take, List.map_drop]
end
/-- the number of the first matching rule -/
def firstAt : List Rule → Case → Nat → Option Int
  | [], _, _ => none
  | r :: rs, c, k => if inC r.1 c = true then some (k : Int) else firstAt rs c (k + 1)
theorem firstAt_some {c : Case} : ∀ {rs : List Rule} {k : Nat} {i : Int}, firstAt rs c k = some i → ∃ j : Nat, i = ((k + j : Nat) : Int) ∧ ∃ r, rs[j]? = some r ∧ inC r.1 c = true ∧ ∀ (a : Nat) (o : Rule), a < j → rs[a]? = some o → inC o.1 c = false
  | [], _, _, h => by cases h
  | r :: rs, k, i, h => by
    unfold firstAt at h
    split at h
    · rename_i hr
      cases h
      exact ⟨0, rfl, r, rfl, hr, fun a o ha => absurd ha (Nat.not_lt_zero _)⟩
    · rename_i hr
      obtain ⟨j, e, r', h1, h2, h3⟩ := firstAt_some h
      refine ⟨j + 1, by rw [e]; congr 1; omega, r', h1, h2, fun a o ha ho => ?_⟩
      cases a with
      | zero => cases ho; simpa using hr
      | succ a => exact h3 a o (by omega) ho
/-- the rules with an earlier one within their own conditions -/
def isNever (rs : List Rule) (i : Nat) : Bool := (rs.take i).any fun o => inC o.1 (rs.getD i ([], 0)).1
def neverOf (rs : List Rule) : List Int := ((List.range rs.length).filter (isNever rs)).map fun (i : Nat) => (i : Int)
theorem inC_iff {a b : Case} : inC a b = true ↔ ∀ x ∈ a, x ∈ b := by
  unfold inC
  simp
theorem inC_trans {a b c : Case} (h : inC a b = true) (k : inC b c = true) : inC a c = true := by
  rw [inC_iff] at *
  exact fun x hx => k x (h x hx)
/-- what decides for a case does sometimes decide -/
theorem first_not_never {rs : List Rule} {c : Case} {i : Int} (h : firstAt rs c 0 = some i) : i ∉ neverOf rs := by
  obtain ⟨j, e, r, h1, h2, h3⟩ := firstAt_some h
  rw [Nat.zero_add] at e
  subst e
  unfold neverOf
  intro hm
  obtain ⟨k, hk, e⟩ := List.mem_map.mp hm
  have e : k = j := by omega
  subst e
  have hn := (List.mem_filter.mp hk).2
  unfold isNever at hn
  rw [List.any_eq_true] at hn
  obtain ⟨o, ho, hin⟩ := hn
  obtain ⟨a, ha⟩ := List.mem_iff_getElem?.mp ho
  rw [List.getElem?_take] at ha
  split at ha
  · rename_i hlt
    have er : rs.getD k ([], 0) = r := by rw [List.getD_eq_getElem?_getD, h1]; rfl
    rw [er] at hin
    have := h3 a o hlt ha
    rw [inC_trans hin h2] at this
    cases this
  · cases ha
theorem gIn_none {f : Bool → Bool} (l : List Int) : gInB f .non (.tup (l.map Dd.int)) = some (.bl (f false)) := by
  have e : pyAll (l.map Dd.int) = some (l.map pe) := pyAll_enc l
  have h : (l.map pe).any (fun y => PyData.eqv y .none) = false := by
    rw [List.any_map, List.any_eq_false]
    intro x _
    show ¬ (PyData.eqv (.int x) .none = true)
    simp [PyData.eqv]
  unfold gInB
  simp only [py, e, Option.bind_some, h]
  rfl
theorem gIn_int {f : Bool → Bool} (i : Int) (l : List Int) : gInB f (.int i) (.tup (l.map Dd.int)) = some (.bl (f (decide (i ∈ l)))) := gInB_tup (α := Int) (by decide) (by intro _ _; nofun) i l
theorem yes_go {we : DL.WE} {sl : DS} {M : MS} {F : Dd → MS → Prop} {G : MS → Prop} (h : we sl M F X0) : wYes sl M (fun b M1 => if b = true then we sl M1 F X0 else G M1) X0 := by
  unfold wYes
  simp only [if_true]
  exact h
end DL
/-! DD4: xs.extend(ys), xs[::-1]. -/
namespace DL
open PySem PySem.Spec PyProof.Rows L2 Enc
section
variable {X : Cx} {W : WX} {e o : Expr} {pos apos : Pos} {wo we : DL.WE}
def wExtend (wo we : DL.WE) : DL.WE := fun sl M Q E => wo sl M (fun d M1 => ∃ p ds0, d = .raw (.ref p) ∧ M1 p = some (.lst ds0) ∧ we sl M1 (fun x M2 => ∃ ds es, M2 p = some (.lst ds) ∧ x = .lst es ∧ ds.length + es.length ≤ 90000 ∧ Q .non (updM M2 p (.lst (ds ++ es)))) E) E
theorem d_extend (ho : PE X o (low W wo)) (he : PE X e (low W we)) (hbase : attributeBase o "extend" X.env (eval o X.env) = eval o X.env := by rfl)
    (hfew : ((backTo pos (starEach [e] X.env)).all (fun x => !x.1) && (backToKw pos (keywordEach [] X.env)).all (fun x => x.1.isSome)
      && decide ([e].length + ([] : List Keyword).length + (if ([] : List Keyword).isEmpty then 0 else 1) < 30)) = true := by rfl)
    (hline : (apos.endLine == pos.line) = true := by rfl) (hs : starEach [e] X.env = (false, eval e X.env) :: starEach [] X.env := by rfl) (hplain : (backTo pos (starEach [] X.env)).any (·.1) = false := by rfl) :
    PE X (.Call (.Attribute o "extend" apos) [e] [] pos) (low W (wExtend wo we)) := by
  refine PE.imp (pe_bm PySem.F.plainAttrs_list PySem.F.slot_list_extend PySem.F.type_list_extend mt_extend ho (pa_cons he pa_nil hs) hbase hfew hline hs hplain) fun σ H Q ⟨sl, Hf, M, Qd, Xd, rl, w, k, kx⟩ => ⟨sl, Hf, M, _, Xd, rl, w, fun d Hf1 M1 v H1 s1 r1 w1 => ?_, kx⟩
  obtain ⟨p, ds0, rfl, hp, w1⟩ := w1
  cases r1
  obtain ⟨xs0, h0, _⟩ := s1.wd.ok p _ hp
  refine ⟨.inl ⟨rfl, _, .of h0⟩, ⟨sl, Hf1, M1, _, Xd, rl.step s1, w1, fun x Hf2 M2 y H2 s2 r2 w2 => ?_, fun c Hf2 M2 H2 s2 hx => kx c Hf2 M2 H2 (s1.trans s2) hx⟩⟩
  obtain ⟨ds, es, hd, rfl, hz, q⟩ := w2
  obtain ⟨xs, h1, r⟩ := s2.wd.ok p _ hd
  cases r2 with
  | lst hb rb =>
    rename_i b ys
    refine ⟨p, b, xs, ys, rfl, rfl, h1, s2.wd.le _ _ hb, by rw [r.length, rb.length]; exact sz5 (by omega), ?_⟩
    exact k .non Hf2 _ .non _ ((s1.trans s2).trans (Stp.write (mo := .lst (ds ++ es)) s2.wd (.inl ⟨_, hd⟩) ⟨_, upd_same, r.append rb⟩)) .non q
/-- xs[::-1] -/
def wRevL (we : DL.WE) : DL.WE := fun sl M Q E => we sl M (fun d M1 => ∃ ds, der M1 d = .lst ds ∧ Q (.lst ds.reverse) M1) E
theorem RepAll.reverse {H : Hp} : ∀ {ds : List Dd} {vs : List V}, RepAll H vs ds → RepAll H vs.reverse ds.reverse
  | _, _, .nil => .nil
  | _ :: _, _ :: _, .cons h r => by
    rw [List.reverse_cons, List.reverse_cons]
    exact (RepAll.reverse r).append (.cons h .nil)
theorem d_revL {k : Nat} {p1 p2 p3 : Pos} (he : PE X e (low W we)) : PE X (.Subscript e (.Slice none none (some (.UnaryOp .USub (.Constant (.int 1) k p1) p2)) p3) pos) (low W (wRevL we)) := by
  refine PE.imp (pe_revL he) fun σ H Q ⟨sl, Hf, M, Qd, Xd, rl, w, k, kx⟩ => ⟨sl, Hf, M, _, Xd, rl, w, fun d Hf1 M1 v H1 s1 r1 ⟨ds, hd, w1⟩ => ?_, kx⟩
  have rt := RepT.of s1.wd r1
  rw [hd] at rt
  obtain ⟨a, xs, rfl, ha, r⟩ := rt.lst s1.wd.le
  refine ⟨a, xs, rfl, .of ha, fun p hp => ?_⟩
  have g := Grow.one (o := .lst xs.reverse) s1.wd.le hp
  exact k _ _ M1 _ _ (s1.trans (Stp.grow s1.wd g)) (.lst upd_same (r.reverse.mono g.fz)) w1
/-- ahead of a statement a list that changed is data from here on -/
def wFrzV (i : Nat) (w : WS) : WS := fun E sl M => ∃ p ds, sl[i]? = some (some (.raw (.ref p))) ∧ M p = some (.lst ds) ∧ w E (sl.set i (some (.lst ds))) (delM M p)
theorem s_frzV (i : Nat) {st : Stmt} {w : WS} (h : PS X st (lowS W w)) : PS X st (lowS W (wFrzV i w)) := by
  refine PS.imp h fun D σ H ⟨sl, Hf, M, E, rl, ⟨p, ds, hs, hM, hw⟩, k1, k2, k3, k4, k5⟩ => ?_
  obtain ⟨Hf', sf, rp⟩ := Stp.freeze rl.wd hM
  refine ⟨sl.set i (some (.lst ds)), Hf', delM M p, E, (rl.step sf).re i hs (fun v hv => ?_), hw, fun sl' Hf2 M' σ' H' s => k1 sl' Hf2 M' σ' H' (sf.trans s), fun d Hf2 M' v H' s => k2 d Hf2 M' v H' (sf.trans s), fun sl' Hf2 M' σ' H' s => k3 sl' Hf2 M' σ' H' (sf.trans s), fun sl' Hf2 M' σ' H' s => k4 sl' Hf2 M' σ' H' (sf.trans s), fun c sl' Hf2 M' σ' H' s => k5 c sl' Hf2 M' σ' H' (sf.trans s)⟩
  cases hv
  exact rp
end
theorem Fr.none {M M' : MS} {q : Addr} (h : Fr M M') (hq : M' q = none) : M q = none := by
  cases e : M q with
  | none => rfl
  | some mo => rw [h q mo e] at hq; cases hq
end DL
/-! DP3: all cases of the conditions that rules name, plainly; rules that never decide. -/
namespace DL
open PySem PySem.Spec PyProof.Rows L2 Enc TL
/-- the conditions that rules name, by their first place -/
def named : List (Int × Int) → List Rule → List (Int × Int)
  | nm, [] => nm
  | nm, r :: rs => named (nm ++ r.1.filter fun x => !decide (x ∈ nm)) rs
theorem mem_named : ∀ {rs : List Rule} {nm : List (Int × Int)} {x : Int × Int}, x ∈ named nm rs ↔ x ∈ nm ∨ ∃ r ∈ rs, x ∈ r.1
  | [], nm, x => by simp [named]
  | r :: rs, nm, x => by
    unfold named
    rw [mem_named, List.mem_append, List.mem_filter]
    constructor
    · rintro ((h | ⟨h, _⟩) | ⟨z, hz, h⟩)
      · exact .inl h
      · exact .inr ⟨r, List.mem_cons_self, h⟩
      · exact .inr ⟨z, List.mem_cons_of_mem _ hz, h⟩
    · rintro (h | ⟨z, hz, h⟩)
      · exact .inl (.inl h)
      · rcases List.mem_cons.mp hz with rfl | hz
        · by_cases hx : x ∈ nm
          · exact .inl (.inl hx)
          · exact .inl (.inr ⟨h, by simpa using hx⟩)
        · exact .inr ⟨z, hz, h⟩
theorem up_nd {c : Case} (h : Up c) : c.Nodup := h.imp fun {x y} hxy e => by rw [e] at hxy; exact absurd hxy (by omega)
theorem named_nodup : ∀ {rs : List Rule} {nm : List (Int × Int)}, nm.Nodup → (∀ r ∈ rs, Up r.1) → (named nm rs).Nodup
  | [], nm, h, _ => h
  | r :: rs, nm, h, hu => by
    unfold named
    refine named_nodup ?_ fun z hz => hu z (List.mem_cons_of_mem _ hz)
    rw [List.nodup_append]
    refine ⟨h, (up_nd (hu r List.mem_cons_self)).filter _, fun a ha b hb e => ?_⟩
    subst e
    have := (List.mem_filter.mp hb).2
    simp at this
    exact this ha
/-- all cases of named conditions, attribute by attribute -/
def evGo (nm : List (Int × Int)) (a : Int) : List Case → List Case
  | [] => []
  | c :: cs => (c :: (nm.filter fun x => decide (x.1 = a)).map fun x => c ++ [x]) ++ evGo nm a cs
def ev (nm : List (Int × Int)) : Nat → List Case
  | 0 => [[]]
  | k + 1 => evGo nm (k : Int) (ev nm k)
theorem mem_evGo {nm : List (Int × Int)} {a : Int} {c : Case} : ∀ {cs : List Case}, c ∈ evGo nm a cs ↔ ∃ d ∈ cs, c = d ∨ ∃ x ∈ nm, x.1 = a ∧ c = d ++ [x]
  | [] => by simp [evGo]
  | d :: cs => by
    unfold evGo
    rw [List.mem_append, List.mem_cons, mem_evGo, List.mem_map]
    constructor
    · rintro ((h | ⟨x, hx, h⟩) | ⟨e, he, h⟩)
      · exact ⟨d, List.mem_cons_self, .inl h⟩
      · rw [List.mem_filter] at hx
        exact ⟨d, List.mem_cons_self, .inr ⟨x, hx.1, of_decide_eq_true hx.2, h.symm⟩⟩
      · exact ⟨e, List.mem_cons_of_mem _ he, h⟩
    · rintro ⟨e, he, h⟩
      rcases List.mem_cons.mp he with rfl | he
      · rcases h with h | ⟨x, hx, hxa, h⟩
        · exact .inl (.inl h)
        · exact .inl (.inr ⟨x, List.mem_filter.mpr ⟨hx, decide_eq_true hxa⟩, h.symm⟩)
      · exact .inr ⟨e, he, h⟩
theorem ev_sound {nm : List (Int × Int)} {c : Case} : ∀ {k : Nat}, c ∈ ev nm k → Up c ∧ ∀ x ∈ c, x ∈ nm ∧ 0 ≤ x.1 ∧ x.1 < k
  | 0, h => by
    rw [show c = [] from List.mem_singleton.mp h]
    exact ⟨.nil, fun _ h => absurd h List.not_mem_nil⟩
  | k + 1, h => by
    obtain ⟨d, hd, h⟩ := mem_evGo.mp h
    obtain ⟨h1, h2⟩ := ev_sound hd
    rcases h with rfl | ⟨x, hx, hxa, rfl⟩
    · exact ⟨h1, fun x hx => by have := h2 x hx; push_cast; exact ⟨this.1, by omega, by omega⟩⟩
    · refine ⟨List.pairwise_append.mpr ⟨h1, List.pairwise_singleton _ _, fun a ha b hb => ?_⟩, fun y hy => ?_⟩
      · rw [List.mem_singleton.mp hb, hxa]
        exact (h2 a ha).2.2
      · rw [List.mem_append, List.mem_singleton] at hy
        push_cast
        rcases hy with hy | rfl
        · have := h2 y hy
          exact ⟨this.1, by omega, by omega⟩
        · exact ⟨hx, by omega, by omega⟩
theorem ev_full {nm : List (Int × Int)} : ∀ {k : Nat} {c : Case}, Up c → (∀ x ∈ c, x ∈ nm ∧ 0 ≤ x.1 ∧ x.1 < k) → c ∈ ev nm k
  | 0, c, _, h => by
    cases c with
    | nil => exact List.mem_singleton.mpr rfl
    | cons x c => have := h x List.mem_cons_self; omega
  | k + 1, c, hu, h => by
    refine mem_evGo.mpr ?_
    by_cases hc : c = []
    · subst hc
      exact ⟨[], ev_full .nil fun _ h => absurd h List.not_mem_nil, .inl rfl⟩
    have e := List.dropLast_concat_getLast hc
    generalize c.getLast hc = x at e
    generalize c.dropLast = d at e
    subst e
    obtain ⟨u1, _, u2⟩ := List.pairwise_append.mp hu
    have hx := h x (by simp)
    have hd : ∀ y ∈ d, y ∈ nm ∧ 0 ≤ y.1 ∧ y.1 < k := fun y hy => by
      have h1 := h y (List.mem_append_left _ hy)
      have h2 := u2 y hy x (List.mem_singleton.mpr rfl)
      push_cast at hx
      exact ⟨h1.1, h1.2.1, by omega⟩
    by_cases hk : x.1 = (k : Int)
    · exact ⟨d, ev_full u1 hd, .inr ⟨x, hx.1, hk, rfl⟩⟩
    · refine ⟨d ++ [x], ev_full hu fun y hy => ?_, .inl rfl⟩
      rcases List.mem_append.mp hy with hy | hy
      · exact hd y hy
      · rw [List.mem_singleton.mp hy]
        push_cast at hx
        exact ⟨hx.1, hx.2.1, by omega⟩
theorem few_at {nm : List (Int × Int)} (nd : nm.Nodup) {a b : Int} (h : ∀ x ∈ nm, 0 ≤ x.2 ∧ x.2 < b) : (nm.filter fun x => decide (x.1 = a)).length ≤ b.toNat := by
  have e : ((nm.filter fun x => decide (x.1 = a)).map (·.2)).Nodup := by
    rw [List.nodup_iff_pairwise_ne, List.pairwise_map]
    refine (nd.filter _).imp_of_mem fun {x y} hx hy hne e => hne ?_
    have h1 := of_decide_eq_true (List.mem_filter.mp hx).2
    have h2 := of_decide_eq_true (List.mem_filter.mp hy).2
    exact Prod.ext (h1.trans h2.symm) e
  have sub : ∀ (l : List Int) (n : Nat), l.Nodup → (∀ k ∈ l, 0 ≤ k ∧ k < n) → l.length ≤ n := by
    intro l n nd h
    have key : ∀ (a b : List Int), a.Nodup → (∀ k ∈ a, k ∈ b) → a.length ≤ b.length := by
      intro a
      induction a with
      | nil => intro b _ _; exact Nat.zero_le _
      | cons x a ih =>
        intro b na hb
        rw [List.nodup_cons] at na
        have hx := hb x List.mem_cons_self
        have := ih (b.erase x) na.2 fun k hk => (List.mem_erase_of_ne (fun e : k = x => na.1 (by rw [← e]; exact hk))).2 (hb k (List.mem_cons_of_mem _ hk))
        have e := List.length_erase_of_mem hx
        have := List.length_pos_of_mem hx
        rw [List.length_cons]
        omega
    have := key l ((List.range n).map fun (i : Nat) => (i : Int)) nd fun k hk => by
      have := h k hk
      exact List.mem_map.mpr ⟨k.toNat, List.mem_range.mpr (by omega), by omega⟩
    rw [List.length_map, List.length_range] at this
    exact this
  have := sub _ b.toNat e fun k hk => by
    obtain ⟨x, hx, rfl⟩ := List.mem_map.mp hk
    have := h x (List.mem_filter.mp hx).1
    omega
  rw [List.length_map] at this
  exact this
theorem evGo_len {nm : List (Int × Int)} {a : Int} {b : Nat} (h : (nm.filter fun x => decide (x.1 = a)).length ≤ b) : ∀ cs : List Case, (evGo nm a cs).length ≤ cs.length * (b + 1)
  | [] => Nat.zero_le _
  | c :: cs => by
    have ih := evGo_len h cs
    unfold evGo
    rw [List.length_append, List.length_cons, List.length_map, List.length_cons, Nat.add_mul]
    omega
theorem ev_len {nm : List (Int × Int)} {b : Nat} (h : ∀ a : Int, (nm.filter fun x => decide (x.1 = a)).length ≤ b) : ∀ k, (ev nm k).length ≤ (b + 1) ^ k
  | 0 => Nat.le_refl _
  | k + 1 => by
    have := evGo_len (h (k : Int)) (ev nm k)
    have ih := ev_len h k
    rw [Nat.pow_succ]
    exact Nat.le_trans this (Nat.mul_le_mul_right _ ih)
/-- the cases of a list of rules -/
def every (rs : List Rule) : List Case := ev (named [] rs) 5
theorem every_mem {v n : Int} {rs : List Rule} (h : ∀ r ∈ rs, GoodR v n r) {r : Rule} (hr : r ∈ rs) : r.1 ∈ every rs := by
  refine ev_full (h r hr).2.1 fun x hx => ⟨mem_named.mpr (.inr ⟨r, hr, hx⟩), ?_⟩
  have := (h r hr).1 x hx
  push_cast
  omega
theorem every_len {n : Int} {rs : List Rule} (h : ∀ r ∈ rs, GoodR 3 n r) (k : Nat) (hk : k ≤ 5) : (ev (named [] rs) k).length ≤ 1024 := by
  have nd : (named [] rs).Nodup := named_nodup .nil fun r hr => (h r hr).2.1
  have := ev_len (nm := named [] rs) (b := 3) (fun a => few_at nd (b := 3) fun x hx => by
    rcases mem_named.mp hx with z | ⟨r, hr, z⟩
    · cases z
    · have := (h r hr).1 x z
      omega) k
  refine Nat.le_trans this ?_
  have : (3 + 1) ^ k ≤ (3 + 1) ^ 5 := Nat.pow_le_pow_right (by decide) hk
  exact this
theorem every_ok {n : Int} {rs : List Rule} (h : ∀ r ∈ rs, GoodR 3 n r) {c : Case} (hc : c ∈ every rs) : InB 3 c ∧ Up c := by
  obtain ⟨h1, h2⟩ := ev_sound hc
  refine ⟨fun x hx => ?_, h1⟩
  rcases mem_named.mp (h2 x hx).1 with z | ⟨r, hr, z⟩
  · cases z
  · exact (h r hr).1 x z
/-! ### what never decides -/
def hits (rs : List Rule) (c : Case) : List Nat := (List.range rs.length).filter fun i => inC (rs.getD i ([], 0)).1 c
def decides (rs : List Rule) : List Case → List Nat
  | [] => []
  | c :: cs => (hits rs c).take 1 ++ decides rs cs
theorem mem_decides {rs : List Rule} {i : Nat} : ∀ {cs : List Case}, i ∈ decides rs cs ↔ ∃ c ∈ cs, i ∈ (hits rs c).take 1
  | [] => by simp [decides]
  | c :: cs => by
    unfold decides
    rw [List.mem_append, mem_decides]
    simp
theorem take_one {p : Nat → Bool} : ∀ {n s i : Nat}, i ∈ ((List.range' s n).filter p).take 1 ↔ s ≤ i ∧ i < s + n ∧ p i = true ∧ ∀ j, s ≤ j → j < i → p j = false
  | 0, s, i => by
    constructor
    · intro h; simp at h
    · rintro ⟨h1, h2, _⟩; omega
  | n + 1, s, i => by
    rw [List.range'_succ, List.filter_cons]
    by_cases hp : p s = true
    · rw [if_pos hp]
      simp only [List.take_succ_cons, List.take_zero, List.mem_singleton]
      constructor
      · rintro rfl
        exact ⟨Nat.le_refl _, by omega, hp, fun j h1 h2 => by omega⟩
      · rintro ⟨h1, h2, h3, h4⟩
        by_cases e : i = s
        · exact e
        · have := h4 s (Nat.le_refl _) (by omega)
          rw [hp] at this
          cases this
    · rw [if_neg hp, take_one]
      constructor
      · rintro ⟨h1, h2, h3, h4⟩
        refine ⟨by omega, by omega, h3, fun j g1 g2 => ?_⟩
        by_cases e : j = s
        · rw [e]; simpa using hp
        · exact h4 j (by omega) g2
      · rintro ⟨h1, h2, h3, h4⟩
        have hne : i ≠ s := fun e => hp (by rw [← e]; exact h3)
        exact ⟨by omega, by omega, h3, fun j g1 g2 => h4 j (by omega) g2⟩
theorem inC_refl (a : Case) : inC a a = true := inC_iff.mpr fun _ h => h
theorem decides_iff {v n : Int} {rs : List Rule} (h : ∀ r ∈ rs, GoodR v n r) {i : Nat} (hi : i < rs.length) : i ∈ decides rs (every rs) ↔ isNever rs i = false := by
  rw [mem_decides]
  have hg : ∀ j (hj : j < rs.length), rs.getD j ([], 0) = rs[j] := fun j hj => getDat hj
  constructor
  · rintro ⟨c, hc, hm⟩
    unfold hits at hm
    rw [List.range_eq_range', take_one] at hm
    obtain ⟨_, _, h3, h4⟩ := hm
    cases hn : isNever rs i with
    | false => rfl
    | true =>
      unfold isNever at hn
      rw [List.any_eq_true] at hn
      obtain ⟨o, ho, hin⟩ := hn
      obtain ⟨a, ha⟩ := List.mem_iff_getElem?.mp ho
      rw [List.getElem?_take] at ha
      split at ha
      · rename_i hlt
        have := h4 a (Nat.zero_le _) hlt
        have e : rs.getD a ([], 0) = o := by rw [List.getD_eq_getElem?_getD, ha]; rfl
        rw [e, inC_trans hin h3] at this
        cases this
      · cases ha
  · intro hn
    refine ⟨(rs.getD i ([], 0)).1, every_mem h (by rw [hg i hi]; exact List.getElem_mem hi), ?_⟩
    unfold hits
    rw [List.range_eq_range', take_one]
    refine ⟨Nat.zero_le _, by omega, inC_refl _, fun j _ hj => ?_⟩
    cases hb : inC (rs.getD j ([], 0)).1 (rs.getD i ([], 0)).1 with
    | false => rfl
    | true =>
      have : isNever rs i = true := by
        unfold isNever
        rw [List.any_eq_true]
        refine ⟨rs.getD j ([], 0), ?_, hb⟩
        rw [hg j (by omega)]
        exact List.mem_iff_getElem?.mpr ⟨j, by rw [List.getElem?_take, if_pos hj, List.getElem?_eq_getElem (by omega)]⟩
      rw [hn] at this
      cases this
theorem never_due {v n : Int} {rs : List Rule} (h : ∀ r ∈ rs, GoodR v n r) : ((List.range rs.length).filter fun i => !decide (i ∈ decides rs (every rs))) = (List.range rs.length).filter (isNever rs) := by
  apply List.filter_congr
  intro i hi
  have hi := List.mem_range.mp hi
  have := decides_iff h hi
  cases hn : isNever rs i with
  | false =>
    have := this.mpr hn
    simp [this]
  | true =>
    have : i ∉ decides rs (every rs) := fun z => by
      rw [this.mp z] at hn
      cases hn
    simp [this]
theorem decides_lt {rs : List Rule} {cs : List Case} : (decides rs cs).length ≤ cs.length := by
  induction cs with
  | nil => exact Nat.le_refl _
  | cons c cs ih =>
    unfold decides
    rw [List.length_append, List.length_cons, List.length_take]
    omega
theorem evGo_snoc {nm : List (Int × Int)} {a : Int} {c : Case} : ∀ cs : List Case, evGo nm a (cs ++ [c]) = evGo nm a cs ++ (c :: (nm.filter fun x => decide (x.1 = a)).map fun x => c ++ [x])
  | [] => by simp [evGo]
  | d :: cs => by
    rw [List.cons_append, evGo, evGo_snoc cs, evGo]
    simp
theorem evGo_sub {nm : List (Int × Int)} {a : Int} (cs ds : List Case) : (evGo nm a cs).length ≤ (evGo nm a (cs ++ ds)).length := by
  induction cs with
  | nil => exact Nat.zero_le _
  | cons c cs ih =>
    rw [List.cons_append, evGo, evGo, List.length_append, List.length_append]
    omega
theorem named_len : ∀ (rs : List Rule) (nm : List (Int × Int)), (named nm rs).length ≤ nm.length + (rs.map fun r => r.1.length).sum
  | [], nm => by simp [named]
  | r :: rs, nm => by
    unfold named
    have := named_len rs (nm ++ r.1.filter fun x => !decide (x ∈ nm))
    rw [List.length_append] at this
    have h2 := List.length_filter_le (fun x => !decide (x ∈ nm)) r.1
    rw [List.map_cons, List.sum_cons]
    omega
theorem decides_snoc {rs : List Rule} {c : Case} : ∀ cs : List Case, decides rs (cs ++ [c]) = decides rs cs ++ (hits rs c).take 1
  | [] => by simp [decides]
  | d :: cs => by
    rw [List.cons_append, decides, decides_snoc cs, decides]
    simp
theorem mem_nat_int {l : List Nat} {i : Nat} : ((0 + (i : Int)) ∈ l.map fun (i : Nat) => (i : Int)) ↔ i ∈ l := by
  rw [List.mem_map]
  constructor
  · rintro ⟨j, hj, e⟩
    have : j = i := by omega
    rw [← this]
    exact hj
  · intro h
    exact ⟨i, h, by omega⟩
end DL
/-! DP4: conditions that meet, put together; opposed and settling rules, plainly. -/
namespace DL
open PySem PySem.Spec PyProof.Rows L2 Enc TL
instance (p q : Int × Int) : Decidable (ltP p q) := by unfold ltP; infer_instance
def insP (x : Int × Int) : Case → Case
  | [] => [x]
  | y :: l => if ltP x y then x :: y :: l else if x = y then y :: l else y :: insP x l
theorem mem_insP {x z : Int × Int} : ∀ {l : Case}, z ∈ insP x l ↔ z = x ∨ z ∈ l
  | [] => by simp [insP]
  | y :: l => by
    unfold insP
    split
    · simp
    · split
      · rename_i e
        subst e
        simp
      · rw [List.mem_cons, mem_insP, List.mem_cons]
        constructor
        · rintro (h | h | h)
          · exact .inr (.inl h)
          · exact .inl h
          · exact .inr (.inr h)
        · rintro (h | h | h)
          · exact .inr (.inl h)
          · exact .inl h
          · exact .inr (.inr h)
theorem insP_asc {x : Int × Int} : ∀ {l : Case}, l.Pairwise ltP → (insP x l).Pairwise ltP
  | [], _ => List.pairwise_singleton _ _
  | y :: l, h => by
    unfold insP
    rw [List.pairwise_cons] at h
    split
    · rename_i hx
      refine List.pairwise_cons.mpr ⟨fun z hz => ?_, List.pairwise_cons.mpr h⟩
      rcases List.mem_cons.mp hz with rfl | hz
      · exact hx
      · exact ltP_trans hx (h.1 z hz)
    · split
      · exact List.pairwise_cons.mpr h
      · rename_i h1 h2
        refine List.pairwise_cons.mpr ⟨fun z hz => ?_, insP_asc h.2⟩
        rcases mem_insP.mp hz with rfl | hz
        · have : z.1 ≠ y.1 ∨ z.2 ≠ y.2 := by
            by_cases e : z.1 = y.1
            · exact .inr fun e2 => h2 (Prod.ext e e2)
            · exact .inl e
          unfold ltP at *
          omega
        · exact h.1 z hz
/-- two cases put together -/
def tog (a b : Case) : Case := (a ++ b).foldr insP []
theorem fold_asc : ∀ l : Case, (l.foldr insP []).Pairwise ltP
  | [] => .nil
  | _ :: l => insP_asc (fold_asc l)
theorem mem_fold {x : Int × Int} : ∀ {l : Case}, x ∈ l.foldr insP [] ↔ x ∈ l
  | [] => Iff.rfl
  | y :: l => by rw [List.foldr_cons, mem_insP, mem_fold, List.mem_cons]
theorem tog_asc (a b : Case) : (tog a b).Pairwise ltP := fold_asc _
theorem mem_tog {a b : Case} {x : Int × Int} : x ∈ tog a b ↔ x ∈ a ∨ x ∈ b := by
  unfold tog
  rw [mem_fold, List.mem_append]
theorem insP_len {x : Int × Int} : ∀ l : Case, (insP x l).length ≤ l.length + 1
  | [] => Nat.le_refl _
  | y :: l => by
    unfold insP
    split
    · exact Nat.le_refl _
    · split
      · simp
      · have := insP_len (x := x) l
        simp only [List.length_cons]
        omega
theorem tog_len (a b : Case) : (tog a b).length ≤ a.length + b.length := by
  have key : ∀ l : Case, (l.foldr insP []).length ≤ l.length := by
    intro l
    induction l with
    | nil => exact Nat.le_refl _
    | cons x l ih =>
      have := insP_len (x := x) (l.foldr insP [])
      rw [List.foldr_cons, List.length_cons]
      omega
  have := key (a ++ b)
  rw [List.length_append] at this
  exact this
theorem tog_uniq {a b out : Case} (h : out.Pairwise ltP) (m : ∀ x, x ∈ out ↔ x ∈ a ++ b) : out = tog a b := ascP_uniq h (tog_asc a b) fun x => by rw [m, mem_tog, List.mem_append]
/-! ### meeting -/
def meetC (a b : Case) : Bool := b.all fun x => decide ((getI a x.1).getD x.2 = x.2)
theorem getI_some {a : Case} {k v : Int} (h : getI a k = some v) : (k, v) ∈ a := by
  unfold getI at h
  obtain ⟨x, hx, e⟩ := Option.map_eq_some_iff.mp h
  have h1 := List.mem_of_find?_eq_some hx
  have h2 : decide (x.1 = k) = true := List.find?_some (p := fun p : Int × Int => decide (p.1 = k)) hx
  have h2 := of_decide_eq_true h2
  rw [← h2, ← e]
  exact h1
theorem getI_none {a : Case} {k : Int} (h : getI a k = none) : ∀ x ∈ a, x.1 ≠ k := by
  unfold getI at h
  rw [Option.map_eq_none_iff, List.find?_eq_none] at h
  intro x hx e
  exact h x hx (decide_eq_true e)
theorem up_one {a : Case} (h : Up a) {x y : Int × Int} (hx : x ∈ a) (hy : y ∈ a) (e : x.1 = y.1) : x = y := by
  induction a with
  | nil => cases hx
  | cons z a ih =>
    have h := List.pairwise_cons.mp h
    rcases List.mem_cons.mp hx with rfl | hx2 <;> rcases List.mem_cons.mp hy with rfl | hy2
    · rfl
    · have := h.1 y hy2; omega
    · have := h.1 x hx2; omega
    · exact ih h.2 hx2 hy2
theorem meet_iff {a b : Case} (ha : Up a) : meetC a b = true ↔ ∀ x ∈ b, ∀ y ∈ a, y.1 = x.1 → y.2 = x.2 := by
  unfold meetC
  rw [List.all_eq_true]
  constructor
  · intro h x hx y hy e
    have h := of_decide_eq_true (h x hx)
    cases hg : getI a x.1 with
    | none => exact absurd e (getI_none hg y hy)
    | some v =>
      rw [hg] at h
      have := up_one ha hy (getI_some hg) e
      rw [this]
      exact h
  · intro h x hx
    rw [decide_eq_true_eq]
    cases hg : getI a x.1 with
    | none => rfl
    | some v => exact h x hx _ (getI_some hg) rfl
theorem mrgI_self : ∀ {l m : Case}, ((m ++ l).map (·.1)).Nodup → mrgI m l = m ++ l
  | [], m, _ => by simp [mrgI]
  | p :: l, m, h => by
    have e : putI m p.1 p.2 = m ++ [p] := by
      unfold putI
      rw [if_neg]
      intro hz
      obtain ⟨x, hx, hk⟩ := List.any_eq_true.mp hz
      rw [List.map_append, List.nodup_append] at h
      exact h.2.2 x.1 (List.mem_map.mpr ⟨x, hx, rfl⟩) p.1 (by simp) (of_decide_eq_true hk)
    show mrgI (putI m p.1 p.2) l = _
    rw [e, mrgI_self (by simpa using h)]
    simp
theorem mrgI_up {a : Case} (h : Up a) : mrgI [] a = a := mrgI_self (m := []) (by simpa using h.nodup)
theorem tog_names {a b : Case} (ha : Up a) (hb : Up b) : ((tog a b).map (·.1)).Nodup ↔ meetC a b = true := by
  rw [meet_iff ha]
  constructor
  · intro h x hx y hy e
    have hxt : x ∈ tog a b := mem_tog.mpr (.inr hx)
    have hyt : y ∈ tog a b := mem_tog.mpr (.inl hy)
    have inj : ∀ (l : Case), (l.map (·.1)).Nodup → ∀ x ∈ l, ∀ y ∈ l, y.1 = x.1 → y = x := by
      intro l
      induction l with
      | nil => intro _ x hx; cases hx
      | cons z l ih =>
        intro hn x hx y hy e
        rw [List.map_cons, List.nodup_cons] at hn
        rcases List.mem_cons.mp hx with rfl | hx2 <;> rcases List.mem_cons.mp hy with rfl | hy2
        · rfl
        · exact absurd (List.mem_map.mpr ⟨y, hy2, e⟩) hn.1
        · exact absurd (show y.1 ∈ l.map (·.1) from List.mem_map.mpr ⟨x, hx2, e.symm⟩) hn.1
        · exact ih hn.2 x hx2 y hy2 e
    rw [inj _ h x hxt y hyt e]
  · intro h
    rw [List.nodup_iff_pairwise_ne, List.pairwise_map]
    refine (tog_asc a b).imp_of_mem fun {x y} hx hy hlt e => ?_
    have : x = y := by
      rcases mem_tog.mp hx with hx | hx <;> rcases mem_tog.mp hy with hy | hy
      · exact up_one ha hx hy e
      · exact Prod.ext e (h y hy x hx e)
      · exact Prod.ext e (h x hx y hy e.symm).symm
      · exact up_one hb hx hy e
    rw [this] at hlt
    exact ltP_irrefl _ hlt
theorem tog_up {a b : Case} (ha : Up a) (hb : Up b) (h : meetC a b = true) : Up (tog a b) := by
  have nd := (tog_names ha hb).mpr h
  rw [List.nodup_iff_pairwise_ne, List.pairwise_map] at nd
  refine ((tog_asc a b).and nd).imp fun {x y} hxy => ?_
  obtain ⟨h1, h2⟩ := hxy
  unfold ltP at h1
  omega
theorem tog_inB {v : Int} {a b : Case} (ha : InB v a) (hb : InB v b) : InB v (tog a b) := fun x hx => by
  rcases mem_tog.mp hx with h | h
  · exact ha x h
  · exact hb x h
/-! ### opposed, settling -/
def oppC (r s : Rule) : Bool := decide (r.2 ≠ s.2) && (meetC r.1 s.1 && (!strW r.1 s.1 && !strW s.1 r.1))
def setC (z r s : Rule) : Bool := inC z.1 (tog r.1 s.1) && (strW r.1 z.1 || strW s.1 z.1)
def oppL (r s : Rule) : Bool := if r.2 = s.2 then false else if meetC r.1 s.1 = true then (if (inC s.1 r.1 || inC r.1 s.1) = true then decide (r.1.length = s.1.length) else true) else false
theorem sub_len {a b : Case} (ha : a.Nodup) (h : inC a b = true) : a.length ≤ b.length := by
  rw [inC_iff] at h
  induction a generalizing b with
  | nil => exact Nat.zero_le _
  | cons x a ih =>
    rw [List.nodup_cons] at ha
    have hx := h x List.mem_cons_self
    have := ih (b := b.erase x) ha.2 fun k hk => (List.mem_erase_of_ne (fun e : k = x => ha.1 (by rw [← e]; exact hk))).2 (h k (List.mem_cons_of_mem _ hk))
    have e := List.length_erase_of_mem hx
    have := List.length_pos_of_mem hx
    rw [List.length_cons]
    omega
theorem oppL_eq {r s : Rule} (hr : Up r.1) (hs : Up s.1) : oppL r s = oppC r s := by
  unfold oppL oppC strW
  by_cases e : r.2 = s.2
  · rw [if_pos e]; simp [e]
  rw [if_neg e]
  by_cases hm : meetC r.1 s.1 = true
  · rw [if_pos hm, hm]
    simp only [ne_eq, e, not_false_eq_true, decide_true, Bool.true_and]
    have l1 : inC r.1 s.1 = true → r.1.length ≤ s.1.length := sub_len (up_nd hr)
    have l2 : inC s.1 r.1 = true → s.1.length ≤ r.1.length := sub_len (up_nd hs)
    rw [Bool.eq_iff_iff]
    cases h1 : inC r.1 s.1 <;> cases h2 : inC s.1 r.1 <;> simp
    · have := l2 h2; exact ⟨fun e => by omega, fun e => by omega⟩
    · have := l1 h1; exact ⟨fun e => by omega, fun e => by omega⟩
    · have := l1 h1; have := l2 h2; exact ⟨fun e => by omega, fun e => by omega⟩
  · rw [if_neg hm]
    simp [hm]
/-! ### pairs -/
def rw0 (rs : List Rule) (i : Nat) : Rule := rs.getD i ([], 0)
def rowN (rs : List Rule) (i k : Nat) : List (Nat × Nat) := ((List.range k).filter fun j => decide (i < j) && oppC (rw0 rs i) (rw0 rs j)).map fun j => (i, j)
def rowsN (rs : List Rule) (k : Nat) : List (Nat × Nat) := (List.range k).flatMap fun i => rowN rs i rs.length
def pairsN (rs : List Rule) : List (Nat × Nat) := rowsN rs rs.length
def cast2 (p : Nat × Nat) : Int × Int := ((p.1 : Int), (p.2 : Int))
theorem rowN_succ (rs : List Rule) (i k : Nat) : rowN rs i (k + 1) = rowN rs i k ++ (if (decide (i < k) && oppC (rw0 rs i) (rw0 rs k)) = true then [(i, k)] else []) := by
  unfold rowN
  rw [List.range_succ, List.filter_append, List.map_append]
  congr 1
  rw [List.filter_cons]
  split <;> rfl
theorem rowsN_succ (rs : List Rule) (k : Nat) : rowsN rs (k + 1) = rowsN rs k ++ rowN rs k rs.length := by
  unfold rowsN
  rw [List.range_succ, List.flatMap_append]
  simp
theorem rowN_len (rs : List Rule) (i k : Nat) : (rowN rs i k).length ≤ k := by
  unfold rowN
  rw [List.length_map]
  have := List.length_filter_le (fun j => decide (i < j) && oppC (rw0 rs i) (rw0 rs j)) (List.range k)
  rw [List.length_range] at this
  exact this
theorem rowsN_len (rs : List Rule) (k : Nat) : (rowsN rs k).length ≤ k * rs.length := by
  induction k with
  | zero => simp [rowsN]
  | succ k ih =>
    rw [rowsN_succ, List.length_append, Nat.add_mul]
    have := rowN_len rs k rs.length
    omega
theorem mem_pairsN {rs : List Rule} {p : Nat × Nat} : p ∈ pairsN rs ↔ p.1 < p.2 ∧ p.2 < rs.length ∧ oppC (rw0 rs p.1) (rw0 rs p.2) = true := by
  unfold pairsN rowsN rowN
  rw [List.mem_flatMap]
  constructor
  · rintro ⟨i, hi, h⟩
    obtain ⟨j, hj, rfl⟩ := List.mem_map.mp h
    rw [List.mem_filter, Bool.and_eq_true, decide_eq_true_eq] at hj
    exact ⟨hj.2.1, List.mem_range.mp hj.1, hj.2.2⟩
  · rintro ⟨h1, h2, h3⟩
    refine ⟨p.1, List.mem_range.mpr (by omega), List.mem_map.mpr ⟨p.2, ?_, rfl⟩⟩
    rw [List.mem_filter, Bool.and_eq_true, decide_eq_true_eq]
    exact ⟨List.mem_range.mpr h2, h1, h3⟩
theorem pairsN_asc (rs : List Rule) : ((pairsN rs).map cast2).Pairwise ltP := by
  rw [List.pairwise_map]
  have rowp : ∀ i k, (rowN rs i k).Pairwise fun p q => ltP (cast2 p) (cast2 q) := by
    intro i k
    unfold rowN
    rw [List.pairwise_map]
    refine (List.pairwise_lt_range.filter _).imp fun {a b} h => ?_
    unfold ltP cast2
    simp
    omega
  have : ∀ k, (rowsN rs k).Pairwise fun p q => ltP (cast2 p) (cast2 q) := by
    intro k
    induction k with
    | zero => simp [rowsN]
    | succ k ih =>
      rw [rowsN_succ, List.pairwise_append]
      refine ⟨ih, rowp _ _, fun p hp q hq => ?_⟩
      unfold rowsN rowN at hp
      unfold rowN at hq
      obtain ⟨i, hi, hp⟩ := List.mem_flatMap.mp hp
      obtain ⟨_, _, rfl⟩ := List.mem_map.mp hp
      obtain ⟨_, _, rfl⟩ := List.mem_map.mp hq
      have := List.mem_range.mp hi
      unfold ltP cast2
      simp
      omega
  exact this _
/-- the law's pairs, column by column -/
def colN (rs : List Rule) (j : Nat) : List (Nat × Nat) := ((List.range j).filter fun i => oppC (rw0 rs i) (rw0 rs j)).map fun i => (i, j)
def colsN (rs : List Rule) (k : Nat) : List (Nat × Nat) := (List.range k).flatMap (colN rs)
theorem colsN_succ (rs : List Rule) (k : Nat) : colsN rs (k + 1) = colsN rs k ++ colN rs k := by
  unfold colsN
  rw [List.range_succ, List.flatMap_append]
  simp
theorem colN_len (rs : List Rule) (j : Nat) : (colN rs j).length ≤ j := by
  unfold colN
  rw [List.length_map]
  have := List.length_filter_le (fun i => oppC (rw0 rs i) (rw0 rs j)) (List.range j)
  rw [List.length_range] at this
  exact this
theorem colsN_len (rs : List Rule) (k : Nat) : (colsN rs k).length ≤ k * k := by
  induction k with
  | zero => simp [colsN]
  | succ k ih =>
    rw [colsN_succ, List.length_append]
    have := colN_len rs k
    have : (k + 1) * (k + 1) = k * k + k + (k + 1) := by rw [Nat.add_mul, Nat.mul_add]; omega
    omega
theorem mem_colsN {rs : List Rule} {p : Nat × Nat} : p ∈ colsN rs rs.length ↔ p ∈ pairsN rs := by
  rw [mem_pairsN]
  unfold colsN colN
  rw [List.mem_flatMap]
  constructor
  · rintro ⟨j, hj, h⟩
    obtain ⟨i, hi, rfl⟩ := List.mem_map.mp h
    rw [List.mem_filter] at hi
    exact ⟨List.mem_range.mp hi.1, List.mem_range.mp hj, hi.2⟩
  · rintro ⟨h1, h2, h3⟩
    refine ⟨p.2, List.mem_range.mpr h2, List.mem_map.mpr ⟨p.1, ?_, rfl⟩⟩
    rw [List.mem_filter]
    exact ⟨List.mem_range.mpr h1, h3⟩
theorem colsN_nodup (rs : List Rule) : (colsN rs rs.length).Nodup := by
  have : ∀ k, (colsN rs k).Nodup ∧ ∀ p ∈ colsN rs k, p.2 < k := by
    intro k
    induction k with
    | zero => exact ⟨by simp [colsN], fun p hp => by simp [colsN] at hp⟩
    | succ k ih =>
      have hk : ∀ p ∈ colN rs k, p.2 = k := fun p hp => by
        unfold colN at hp
        obtain ⟨i, _, rfl⟩ := List.mem_map.mp hp
        rfl
      rw [colsN_succ]
      refine ⟨List.nodup_append.mpr ⟨ih.1, ?_, fun a ha b hb e => ?_⟩, fun p hp => ?_⟩
      · unfold colN
        rw [List.nodup_iff_pairwise_ne, List.pairwise_map]
        refine (List.nodup_range.filter _).imp fun {a b} h e => h ?_
        exact congrArg Prod.fst e
      · subst e
        have := ih.2 a ha
        rw [hk a hb] at this
        omega
      · rcases List.mem_append.mp hp with hp | hp
        · have := ih.2 p hp; omega
        · rw [hk p hp]; omega
  exact (this _).1
theorem pairs_sorted {rs : List Rule} {out : List (Int × Int)} (hp : out.Perm ((colsN rs rs.length).map cast2)) (hs : Asc out) : out = (pairsN rs).map cast2 := by
  have inj : ∀ p q : Nat × Nat, cast2 p = cast2 q → p = q := fun p q e => by
    unfold cast2 at e
    have h1 := congrArg Prod.fst e
    have h2 := congrArg Prod.snd e
    simp only at h1 h2
    exact Prod.ext (by omega) (by omega)
  have nd : out.Nodup := by
    rw [hp.nodup_iff, List.nodup_iff_pairwise_ne, List.pairwise_map]
    exact (colsN_nodup rs).imp fun {a b} h e => h (inj a b e)
  refine ascP_uniq ?_ (pairsN_asc rs) fun x => ?_
  · refine ((asc_pairs hs).and nd).imp fun {x y} h => ?_
    obtain ⟨h1, h2⟩ := h
    have : x.1 ≠ y.1 ∨ x.2 ≠ y.2 := by
      by_cases e : x.1 = y.1
      · exact .inr fun e2 => h2 (Prod.ext e e2)
      · exact .inl e
    unfold leP at h1
    unfold ltP
    omega
  · rw [hp.mem_iff, List.mem_map, List.mem_map]
    constructor <;> rintro ⟨p, h, e⟩
    · exact ⟨p, mem_colsN.mp h, e⟩
    · exact ⟨p, mem_colsN.mpr h, e⟩
/-- the numbers of the rules that settle two -/
def setsN (rs : List Rule) (i j : Nat) : List Nat := (List.range rs.length).filter fun k => setC (rw0 rs k) (rw0 rs i) (rw0 rs j)
def areSet (rs : List Rule) : Bool := (pairsN rs).all fun p => !(setsN rs p.1 p.2).isEmpty
def tornN (rs : List Rule) : Option (Nat × Nat) := (pairsN rs).find? fun p => (setsN rs p.1 p.2).isEmpty
theorem torn_none {rs : List Rule} : tornN rs = none ↔ areSet rs = true := by
  unfold tornN areSet
  rw [List.find?_eq_none, List.all_eq_true]
  refine forall_congr' fun p => forall_congr' fun _ => ?_
  simp
theorem setsN_len (rs : List Rule) (i j : Nat) : (setsN rs i j).length ≤ rs.length := by
  unfold setsN
  have := List.length_filter_le (fun k => setC (rw0 rs k) (rw0 rs i) (rw0 rs j)) (List.range rs.length)
  rw [List.length_range] at this
  exact this
/-- two rules that none settles, with different conditions: no rule has both together -/
theorem torn_new {rs : List Rule} {p : Nat × Nat} (up : ∀ r ∈ rs, Up r.1) (h : tornN rs = some p) (hne : (rw0 rs p.1).1 ≠ (rw0 rs p.2).1) : ∀ z ∈ rs, z.1 ≠ tog (rw0 rs p.1).1 (rw0 rs p.2).1 := by
  have hm := List.mem_of_find?_eq_some h
  have hs := List.find?_some h
  obtain ⟨h1, h2, h3⟩ := mem_pairsN.mp hm
  intro z hz e
  obtain ⟨k, hk, ek⟩ := List.getElem_of_mem hz
  have hg : ∀ i (hi : i < rs.length), rw0 rs i = rs[i] := fun i hi => getDat hi
  have ez : rw0 rs k = z := by rw [hg k hk]; exact ek
  have u1 : Up (rw0 rs p.1).1 := up _ (by rw [hg _ (by omega)]; exact List.getElem_mem _)
  have u2 : Up (rw0 rs p.2).1 := up _ (by rw [hg _ h2]; exact List.getElem_mem _)
  have h4 := h3
  unfold oppC at h4
  simp only [Bool.and_eq_true, Bool.not_eq_true'] at h4
  obtain ⟨_, hmeet, n1, n2⟩ := h4
  have hin : k ∈ setsN rs p.1 p.2 := by
    unfold setsN
    rw [List.mem_filter]
    refine ⟨List.mem_range.mpr hk, ?_⟩
    unfold setC
    rw [ez, e]
    rw [Bool.and_eq_true]
    refine ⟨inC_refl _, ?_⟩
    rw [Bool.or_eq_true]
    by_cases hsub : inC (rw0 rs p.2).1 (rw0 rs p.1).1 = true
    · -- then the one is the other
      exfalso
      have l := sub_len (up_nd u2) hsub
      have : ¬ (rw0 rs p.2).1.length < (rw0 rs p.1).1.length := fun hl => by
        unfold strW at n2
        rw [decide_eq_true hl, hsub] at n2
        cases n2
      have le : (rw0 rs p.2).1.length = (rw0 rs p.1).1.length := by omega
      apply hne
      have back : inC (rw0 rs p.1).1 (rw0 rs p.2).1 = true := by
        rw [inC_iff] at hsub ⊢
        intro x hx
        by_cases hxm : x ∈ (rw0 rs p.2).1
        · exact hxm
        · exfalso
          have := sub_len (a := x :: (rw0 rs p.2).1) (b := (rw0 rs p.1).1) (List.nodup_cons.mpr ⟨hxm, up_nd u2⟩) (inC_iff.mpr fun y hy => by
            rcases List.mem_cons.mp hy with rfl | hy
            · exact hx
            · exact hsub y hy)
          rw [List.length_cons] at this
          omega
      have asc : ∀ {c : Case}, Up c → c.Pairwise ltP := fun h => h.imp fun h => .inl h
      exact ascP_uniq (asc u1) (asc u2) fun x => ⟨inC_iff.mp back x, inC_iff.mp hsub x⟩
    · left
      unfold strW
      rw [Bool.and_eq_true, decide_eq_true_eq]
      have hi : inC (rw0 rs p.1).1 (tog (rw0 rs p.1).1 (rw0 rs p.2).1) = true := inC_iff.mpr fun x hx => mem_tog.mpr (.inl hx)
      refine ⟨?_, hi⟩
      have : ∃ x ∈ (rw0 rs p.2).1, x ∉ (rw0 rs p.1).1 := by
        apply Classical.byContradiction
        intro hn
        apply hsub
        rw [inC_iff]
        intro x hx
        apply Classical.byContradiction
        intro hx2
        exact hn ⟨x, hx, hx2⟩
      obtain ⟨x, hx, hxn⟩ := this
      have := sub_len (a := x :: (rw0 rs p.1).1) (b := tog (rw0 rs p.1).1 (rw0 rs p.2).1) (List.nodup_cons.mpr ⟨hxn, up_nd u1⟩) (inC_iff.mpr fun y hy => by
        rcases List.mem_cons.mp hy with rfl | hy
        · exact mem_tog.mpr (.inr hx)
        · exact mem_tog.mpr (.inl hy))
      rw [List.length_cons] at this
      omega
  rw [List.isEmpty_iff.mp hs] at hin
  cases hin
end DL
/-! DD5: repr of truth values. -/
namespace DL
open PySem PySem.Spec PyProof.Rows L2 Enc
def boolS (b : Bool) : Str := if b then "True" else "False"
def gReprX : List Dd → Option Dd
  | [.bl b] => some (.str (boolS b))
  | ds => gRepr ds
theorem c_reprX {X : Cx} (bA : X.A.guards = some []) (hu : X.A.units + 150 < cLine) : CallG X (.builtin "repr") gReprX := by
  obtain ⟨r, hr, hk⟩ := c_repr (X := X) bA hu
  refine ⟨fun xs H Q => r xs H Q ∨ ∃ b, xs = [.bl b] ∧ Q (.str (boolS b)) H, ?_, ?_⟩
  · rintro pins s σ H xs us Q I rv (h | ⟨b, rfl, q⟩)
    · exact hr pins s σ H xs us Q I rv h
    · obtain ⟨u, rfl, ru⟩ := vals1 rv
      cases ru
      exact PySem.P.repr_of_bool ⟨.str _, H, I.tok _, ⟨_, rfl⟩, q⟩
  · intro Hf M H xs ds z Q w rt hz q
    unfold gReprX at hz
    split at hz
    · cases hz
      obtain ⟨v, rfl, h⟩ := rt.one
      rw [h.bl]
      exact .inr ⟨_, rfl, q _ _ _ (Grow.refl w.le) (.str _)⟩
    · exact .inl (hk Hf M H xs _ z Q w rt hz q)
end DL
/-! DD6: a list that changes, passed to a def that leaves it as it is: it is data while the def runs. -/
namespace DL
open PySem PySem.Spec PyProof.Rows L2 Enc
mutual
/-- no list in it -/
def noL : Dd → Bool
  | .lst _ => false
  | .scr _ _ => false
  | .tup ds => noLs ds
  | .utp ds => noLs ds
  | .ins _ _ ds => noLs ds
  | .dic _ ds => noLs ds
  | _ => true
def noLs : List Dd → Bool
  | [] => true
  | d :: ds => noL d && noLs ds
end
def noLm : MO → Bool
  | .lst ds => noLs ds
  | .ins _ _ ds => noLs ds
def wipeH (H : Hp) (p : Addr) : Hp := fun b => if b = p then none else H b
theorem wipeH_ne {H : Hp} {p b : Addr} (h : b ≠ p) : wipeH H p b = H b := by unfold wipeH; rw [if_neg h]
section
variable {H : Hp} {p : Addr} {xs : List V}
theorem wipe_at (hp : H p = some (.lst xs)) {a : Addr} {o : HO} (h : H a = some o) (ne : ∀ ys, o ≠ .lst ys) : wipeH H p a = some o := by
  rw [wipeH_ne]
  · exact h
  · rintro rfl
    rw [hp] at h
    cases h
    exact ne _ rfl
mutual
theorem rep_wipe (hp : H p = some (.lst xs)) : ∀ {d : Dd} {v : V}, Rep H v d → noL d = true → Rep (wipeH H p) v d
  | .non, _, .non, _ => .non
  | .bl _, _, .bl _, _ => .bl _
  | .int _, _, .int _, _ => .int _
  | .str _, _, .str _, _ => .str _
  | .lst _, _, _, h => by simp [noL] at h
  | .scr _ _, _, _, h => by simp [noL] at h
  | .utp ds, _, .utp h r, k => .utp (by
      rcases h with h | ⟨o, h⟩
      · exact .inl (wipe_at hp h fun _ => nofun)
      · exact .inr ⟨o, wipe_at hp h fun _ => nofun⟩) (reps_wipe hp r (by simpa [noL] using k))
  | .tup ds, _, .tup h o r, k => .tup (wipe_at hp h fun _ => nofun) o (reps_wipe hp r (by simpa [noL] using k))
  | .ins _ _ ds, _, .ins h o r, k => .ins (wipe_at hp h fun _ => nofun) o (reps_wipe hp r (by simpa [noL] using k))
  | .dic _ ds, _, .dic h o r, k => .dic (wipe_at hp h fun _ => nofun) o (reps_wipe hp r (by simpa [noL] using k))
  | .raw _, _, .raw _, _ => .raw _
theorem reps_wipe (hp : H p = some (.lst xs)) : ∀ {ds : List Dd} {vs : List V}, RepAll H vs ds → noLs ds = true → RepAll (wipeH H p) vs ds
  | [], _, .nil, _ => .nil
  | d :: ds, _, .cons h r, k => by
    rw [noLs, Bool.and_eq_true] at k
    exact .cons (rep_wipe hp h k.1) (reps_wipe hp r k.2)
end
end
/-- the list at p taken as data -/
def asL (p : Addr) (l : List Dd) : Dd → Dd
  | .raw (.ref a) => if a = p then .lst l else .raw (.ref a)
  | d => d
theorem asL_one {Hf : Hp} {p : Addr} {l : List Dd} (hp : Rep Hf (.ref p) (.lst l)) {v : V} {d : Dd} (h : Rep Hf v d) : Rep Hf v (asL p l d) := by
  cases h with
  | raw v =>
    cases v with
    | ref a =>
      by_cases e : a = p
      · subst e
        show Rep Hf _ (if a = a then _ else _)
        rw [if_pos rfl]
        exact hp
      · show Rep Hf _ (if a = p then _ else _)
        rw [if_neg e]
        exact .raw _
    | _ => exact .raw _
  | non => exact .non
  | bl b => exact .bl b
  | int i => exact .int i
  | str x => exact .str x
  | lst h r => exact .lst h r
  | utp h r => exact .utp h r
  | tup h o r => exact .tup h o r
  | ins h o r => exact .ins h o r
  | dic h o r => exact .dic h o r
  | scr h => exact .scr h
theorem asL_rep {Hf : Hp} {p : Addr} {l : List Dd} (hp : Rep Hf (.ref p) (.lst l)) : ∀ {ds : List Dd} {vs : List V}, RepAll Hf vs ds → RepAll Hf vs (ds.map (asL p l))
  | [], _, .nil => .nil
  | _ :: _, _, .cons h r => .cons (asL_one hp h) (asL_rep hp r)
/-- f(.., xs, ..): what is kept of the store is M3 -/
def wCallT (n : Nat) (sp : DSp) (wa : WA) : DL.WE := fun sl M Q E => wa sl M (fun ds M1 => ds.length = n ∧ ∃ (p : Addr) (l : List Dd) (M3 : MS), M1 p = some (.lst l) ∧ M3 p = some (.lst l) ∧ (∀ a mo, M3 a = some mo → M1 a = some mo ∧ (a = p ∨ noLm mo = true)) ∧
  sp (ds.map (asL p l)) (delM M1 p) (fun d M2 => noL d = true ∧ (∀ a mo, a ≠ p → M3 a = some mo → M2 a = some mo) ∧ Q d M3) X0) E
section
variable {X : Cx} {W : WX} {e : Expr} {es : List Expr} {pos : Pos}
theorem low_callT {n : Nat} {sp : DSp} {wr : WA} {σ : L2.St} {H : Hp} {Q : VK} (h : low W (wCallT n sp wr) σ H Q) : lowA W wr σ H fun vs H1 => lift n sp vs H1 Q (fun c d H => W c d σ H) := by
  obtain ⟨sl, Hf, M, Qd, Xd, rl, w, k, kx⟩ := h
  refine ⟨sl, Hf, M, _, Xd, rl, w, fun ds Hf1 M1 vs H1 s1 r1 ⟨hl, p, l, M3, hM, hM3, hsub, q⟩ => ?_, kx⟩
  have hf1 : Hf1 p = none := by
    cases hq : Hf1 p with
    | none => rfl
    | some o => have := (s1.wd.fz p o hq).2; rw [hM] at this; cases this
  obtain ⟨xs, hxs, rxs⟩ := s1.wd.ok p _ hM
  obtain ⟨Hf1', sf, rp⟩ := Stp.freeze s1.wd hM
  have rp : Rep Hf1' (.ref p) (.lst l) := rp
  refine ⟨ds.map (asL p l), Hf1', delM M1 p, _, X0, by rw [List.length_map]; exact hl, asL_rep rp (r1.mono sf.up), sf.wd, q, fun d Hf2 M2 v H2 s2 r2 ⟨nl, kp, qd⟩ => ?_, fun _ _ _ _ _ z => z.elim⟩
  have hp1 : Hf1' p = some (.lst xs) := by
    cases rp with
    | lst ha _ =>
      have := sf.wd.le _ _ ha
      rw [hxs] at this
      rw [ha, this]
  have hp2 : Hf2 p = some (.lst xs) := s2.up _ _ hp1
  have up3 : Same Hf1 (wipeH Hf2 p) := fun b o hb => by
    have ne : b ≠ p := fun z => by rw [z, hf1] at hb; cases hb
    rw [wipeH_ne ne]
    exact s2.up _ _ (sf.up _ _ hb)
  have wd3 : Wd (wipeH Hf2 p) M3 H2 := by
    refine ⟨fun a o ha => ?_, fun a mo ha => ?_⟩
    · have ne : a ≠ p := fun z => by unfold wipeH at ha; rw [if_pos z] at ha; cases ha
      rw [wipeH_ne ne] at ha
      obtain ⟨g1, g2⟩ := s2.wd.fz a o ha
      refine ⟨g1, ?_⟩
      cases hq : M3 a with
      | none => rfl
      | some mo => rw [kp a mo ne hq] at g2; cases g2
    · obtain ⟨g1, g2⟩ := hsub a mo ha
      by_cases ne : a = p
      · subst ne
        rw [hM3] at ha
        cases ha
        exact ⟨xs, s2.wd.le _ _ hp2, rxs.mono up3⟩
      · have nm := g2.resolve_left ne
        have ok := s2.wd.ok a mo (kp a mo ne ha)
        cases mo with
        | lst ds2 => obtain ⟨ys, y1, y2⟩ := ok; exact ⟨ys, y1, reps_wipe hp2 y2 nm⟩
        | ins C ks ds2 => obtain ⟨dx, fs, y1, y2, y3⟩ := ok; exact ⟨dx, fs, y1, y2, reps_wipe hp2 y3 nm⟩
  have s3 : Stp Hf1 M1 H1 (wipeH Hf2 p) M3 H2 := by
    refine ⟨up3, wd3, fun a o h1 h2 h3 => ?_⟩
    obtain ⟨z1, z2, z3⟩ := sf.fr a o h1 h2 h3
    obtain ⟨y1, y2, y3⟩ := s2.fr a o z2 z3 z1
    refine ⟨y1, ?_, ?_⟩
    · unfold wipeH
      split
      · rfl
      · exact y2
    · cases hq : M3 a with
      | none => rfl
      | some mo => rw [(hsub a mo hq).1] at h2; cases h2
  exact k d _ M3 v H2 (s1.trans s3) (rep_wipe hp2 r2 nl) qd
theorem d_callT {name : Str} {p : Pos} {n k : Nat} {sp : DSp} {wr : WA} (F : Fn bm X.prog X.w X.K X.mg X.base name n k sp) (bA : Bare bm X.A) (hr : Room k X.A) (tk : Takes X W) (hg : Gl X name) (ha : PA X (e :: es) (lowA W wr)) (hdb : (name == ("__debug__" : Str)) = false := by decide)
    (he : starEach (e :: es) X.env = (false, eval e X.env) :: starEach es X.env := by rfl) (hpl : (backTo pos (starEach es X.env)).any (·.1) = false := by rfl) : PE X (.Call (.Name name p) (e :: es) [] pos) (low W (wCallT n sp wr)) := by
  obtain ⟨f, F, hm, hk⟩ := F.ex
  constructor
  intro pins s σ H Q I h
  apply wpAny_Call_Name_kw
  apply ld_glob I hg hm _ hdb
  have args := ha.run pos pins s σ H _ I (low_callT h)
  apply PySem.W.callWith_K (h₀ := X.base) I.ok.mod.kin hk _ he hpl
  apply thn args
  rintro us s1 ⟨vs, H1, I1, r, q⟩
  exact ⟨I1.kIn, run_G F bA hr (passAt tk σ) I1 r q⟩
end
theorem noLs_enc {α : Type} [Enc α] (h : ∀ a : α, noL (enc a) = true) : ∀ l : List α, noLs (l.map enc) = true
  | [] => rfl
  | a :: l => by rw [List.map_cons, noLs, h a, noLs_enc h l]; rfl
end DL
/-! DS5: set(tuple of pairs), sorted of it. -/
namespace DL
open PySem PySem.Spec PyProof.Rows L2 Enc
section
variable {P : Program} {w : World} {A : Around} {E : Value → Shared → Prop} {s : Shared}
theorem setOfTP {l : Addr} {its : Array Value} (ks : List (Addr × List Int)) {Q : Value → Shared → Prop} (calm : A.handled = none) (isl : s.heap.IsTuple l its) (hin : its.toList = ks.map fun p => Value.ref p.1) (hk : ∀ p ∈ ks, IsT P w s.heap p.2 p.1) (few : ks.length < 64) (hu : A.units + 3 < cLine)
    (fin : ∀ (h' : Heap) (tk : Nat) (L : List (Addr × List Int)) es ep t, SetTR P w h' s.heap.objs.size L es ep t → Got ks ks.length L → (∀ b o, s.heap.get? b = some o → h'.get? b = some o) → Q (.ref s.heap.objs.size) { s with heap := h', toks := tk }) :
    wpAny (model P w) A (call (.type "set") [.ref l]) Q E s := by
  have esz : its.size = ks.length := by
    have q := congrArg List.length hin
    rw [Array.length_toList, List.length_map] at q
    exact q
  obtain ⟨c0, tl0, m0⟩ := F.called_set.mro
  have m1 := F.called_set.made
  have m2 := F.called_set.sub
  apply wpAny_call
  apply codeAny_of_tree
  show wpAny _ _ (callAny (.type "set") _) _ _ _
  apply wpAny_pure
  refine ⟨Code.quiet_builtin _ (by decide +kernel), ?_⟩
  apply codeAny_builtin F.entry_type_call
  rw [Around.under_plain (weight_type_call_type "set" [.ref l] []) rfl]
  have m3 := F.called_set.notType
  have m4 := F.called_set.canCreate
  have m5 := F.typeCall_set_1 (.ref l)
  repeat (any_goals (first | assumption | wp_step))
  apply codeAny_mono (code_set_led1 (.ref l) (E := E) (Q₁ := fun x t => x = .ref s.heap.objs.size ∧ t = { s with heap := s.heap.push (oSet w) }) ⟨rfl, rfl⟩)
  intro r t hr
  match r, hr with
  | .error e, hr => exact hr
  | .ok .next, hr => exact hr.elim
  | .ok .brk, hr => exact hr.elim
  | .ok .cont, hr => exact hr.elim
  | .ok (.ret x), hr =>
    obtain ⟨rfl, rfl⟩ := hr
    have n1 : (s.heap.push (oSet w)).get? s.heap.objs.size = some (oSet w) := Heap.get?_push_size _ rfl
    have n2 : Shared.TypeIs { s with heap := s.heap.push (oSet w) } (.ref s.heap.objs.size) "set" := ⟨_, n1, rfl⟩
    have n3 := F.called_set.init.lookup
    have n4 := F.called_set.init.bind (.ref s.heap.objs.size)
    repeat (any_goals (first | assumption | wp_step))
    apply codeAny_mono (codeAny_call_builtin (R := wants (fun r t => r = .none ∧ ∃ h' tk L es ep t2, t = { s with heap := h', toks := tk } ∧ SetTR P w h' s.heap.objs.size L es ep t2 ∧ Got ks ks.length L ∧ (∀ b o, s.heap.get? b = some o → h'.get? b = some o)) E)
      F.called_set.init.plain F.entry_set_init (check_set_init_1 n2 ?_))
    · intro r t hr
      match r, hr with
      | .error e, hr => exact hr
      | .ok .next, hr => exact hr.elim
      | .ok .brk, hr => exact hr.elim
      | .ok .cont, hr => exact hr.elim
      | .ok (.ret x), hr =>
        obtain ⟨rfl, h', tk, L, es, ep, t2, rfl, z1, z2, z3⟩ := hr
        repeat (any_goals (first | assumption | wp_step))
        exact fin _ _ _ _ _ _ z1 z2 z3
    · obtain ⟨⟨k1, k2, k3, k4⟩, e1, e2, n, e3⟩ := isl
      simp only at e2 e3
      subst e2 e3
      have f1 : (s.heap.push (oSet w)).get? l = some { cls := .type "tuple", dict := k2, data := .seq its n, slots := k4 } := Heap.get?_push_of_some _ e1
      have f2 := F.sub_tuple_set
      have f3 := F.sub_tuple_frozenset
      have f4 : (Value.type "tuple" == Value.type "dict") = false := by decide
      have f5 : (s.heap.push (oSet w)).IsTuple l its := ⟨_, f1, rfl, n, rfl⟩
      unfold Builtin.«set.__init__» noKeywords Builtin.Frozenset.updateFrom
      generalize hP : pyIter = PI
      wp_walk
      subst hP
      apply wpAny_pyIter_tuple f5
      apply wpAny_bind
      apply wpAny_runValue
      have lt : l < s.heap.objs.size := Heap.lt_size e1
      have sz : (s.heap.push (oSet w)).objs.size = s.heap.objs.size + 1 := Heap.size_push ..
      have g1 : l ≠ (s.heap.push (oSet w)).objs.size := fun e => absurd (show l < s.heap.objs.size from lt) (by rw [e, sz]; exact Nat.not_lt_of_le (Nat.le_succ _))
      have g2 : s.heap.objs.size ∉ [(s.heap.push (oSet w)).objs.size, l] := by
        rw [sz]
        intro m
        rcases List.mem_cons.mp m with e | m
        · exact Nat.ne_of_lt (Nat.lt_succ_self _) e
        · exact Nat.ne_of_gt lt (List.mem_singleton.mp m)
      have g3 : ∀ (i : Nat) (v : Value), its[i]? = some v → ∃ p, ks[i]? = some p ∧ v = .ref p.1 := by
        intro i v hv
        have e : (ks.map fun p => Value.ref p.1)[i]? = some v := by rw [← hin, Array.getElem?_toList]; exact hv
        rw [List.getElem?_map] at e
        obtain ⟨p, hp, e⟩ := Option.map_eq_some_iff.mp e
        exact ⟨p, hp, e.symm⟩
      have none_of : ∀ b, s.heap.objs.size ≤ b → s.heap.get? b = none := by
        intro b hb
        cases q : s.heap.get? b with
        | none => rfl
        | some o => exact absurd (Nat.lt_of_lt_of_le (Heap.lt_size q) hb) (Nat.lt_irrefl _)
      refine set_update_tups ((Walks.tuple (by simp [calm]) _ l g1 its).toS) s.heap.objs.size g2 ks esz few g3 s.heap hk (none_of _ (Nat.le_refl _)) (fun b hb => none_of b (by
          rw [List.mem_singleton.mp hb, sz]
          exact Nat.le_succ _)) hu (its.size - 0) 0 _ (by omega) (Nat.zero_le _) ⟨⟨_, Heap.get?_push_size _ rfl, rfl, rfl⟩, ?_⟩ (fun b o e => Heap.get?_push_of_some _ (Heap.get?_push_of_some _ e)) ?_ ?_
      · exact ⟨_, Heap.get?_push_of_some _ f1, rfl, n, rfl⟩
      · exact ⟨[], #[], 0, _, setTR_fresh (Heap.get?_push_of_some _ n1), Got.zero ks⟩
      · rintro ⟨h', gg, d', tk', os'⟩ L es ep t2 hm hS g' hkp
        cases (show gg = s.gens from hm.gens)
        cases (show d' = s.drawn from hm.drawn)
        cases (show os' = s.os from hm.os)
        show wpAny _ _ _ _ _ _
        apply wpAny_pure
        show wpAny _ _ (ret Value.none) _ _ _
        rw [esz] at g'
        apply wpAny_pure
        exact ⟨rfl, h', tk', L, es, ep, t2, rfl, hS, g', hkp⟩
end
section
variable {X : Cx} {W : WX} {e : Expr} {pos : Pos}
def rSetTP (K : PySem.W.Frag) (P : Program) (w : World) : List V → Hp → VK → Prop := fun xs H Q => ∃ (l : Addr) (ks : List (Addr × List Int)), xs = [V.ref l] ∧ SqT K H l (ks.map fun p => V.ref p.1) ∧ (∀ p ∈ ks, SqT K H p.1 (p.2.map V.int)) ∧ ks.length < 64 ∧
  ∀ a L, H a = none → (∀ p ∈ L, p ∈ ks) → (∀ p ∈ ks, p.2 ∈ L.map (·.2)) → Q (.ref a) (upd H a (SetTO P w a L))
theorem cr_setTP (hc : X.calm = true) (hu : X.A.units + 150 < cLine) : CallR X (.type "set") (rSetTP X.K X.prog X.w) := by
  rintro pins s σ H xs us Q I r ⟨l, ks, rfl, hl, hk, hf, q⟩
  rw [Vals.ref1 r]
  obtain ⟨its, rv, pl, hz⟩ := I.tuple hl
  have hn : H s.heap.objs.size = none := I.hok.fresh (Nat.le_refl _)
  refine setOfTP (P := X.prog) (w := X.w) ks (I.ok.hd hc) pl (by simpa using refs_of_vals rv) (fun p hp => I.isT (hk p hp)) hf (by omega) fun h' tk L es ep t R g k => ?_
  refine ⟨.ref _, _, I.laid (t' := tk) k (Nat.le_refl _) (setTO_new R.t0), rfl, q _ L hn (fun p hp => List.mem_of_mem_take (g.sub p hp)) fun p hp => g.all p (by rw [List.take_length]; exact hp)⟩
/-- sorted(set(t)), t a tuple of pairs -/
def wSortSetT (wr : WA) : DL.WE := fun sl M Q E => wr sl M (fun ds M1 => ∃ l : List (Int × Int), ds.map (der M1) = [.tup (l.map enc)] ∧ l.length < 64 ∧ (∀ b ∈ l, SmP b) ∧ ∀ out : List (Int × Int), out.Pairwise ltP → (∀ b, b ∈ out ↔ b ∈ l) → Q (.lst (out.map enc)) M1) E
theorem d_sortSetT {p p1 p2 : Pos} {wr : WA} (hc : X.calm = true) (hu : X.A.units + 150 < cLine) (hg : Gl X "sorted") (hm : X.mg "sorted" = none) (hg2 : Gl X "set") (hm2 : X.mg "set" = none) (ha : PA X [e] (lowA W wr))
    (he : starEach [e] X.env = (false, eval e X.env) :: starEach [] X.env := by rfl) (hp2 : (backTo p2 (starEach [] X.env)).any (·.1) = false := by rfl)
    (he1 : starEach [.Call (.Name "set" p1) [e] [] p2] X.env = (false, eval (.Call (.Name "set" p1) [e] [] p2) X.env) :: starEach [] X.env := by rfl) (hp : (backTo pos (starEach [] X.env)).any (·.1) = false := by rfl) :
    PE X (.Call (.Name "sorted" p) [.Call (.Name "set" p1) [e] [] p2] [] pos) (low W (wSortSetT wr)) := by
  have one : PE X (.Call (.Name "set" p1) [e] [] p2) (tCB (rSetTP X.K X.prog X.w) (lowA W wr)) := pe_callTy (cr_setTP hc hu) hg2 hm2 (by kernel_rfl) ha (by decide) (by decide) he hp2
  refine PE.imp (pe_callB (cr_sortedT hc) hg hm (by kernel_rfl) (pa_cons one pa_nil he1) (by decide) (by decide) he1 hp) fun σ H Q ⟨sl, Hf, M, Qd, Xd, rl, w, k, kx⟩ => ⟨sl, Hf, M, _, Xd, rl, w, fun ds Hf1 M1 vs H1 s1 r1 w1 => ?_, kx⟩
  obtain ⟨l, ed, h64, hsm, q⟩ := w1
  have rt := RepTs.of s1.wd r1
  rw [ed] at rt
  obtain ⟨v, rfl, h⟩ := rt.one
  obtain ⟨a, xs, rfl, hl, r⟩ := h.tup
  obtain ⟨ks, rfl, hk, ek⟩ := pair_keys s1.wd.le (K := X.K) r
  have lk : ks.length = l.length := by
    have := congrArg List.length ek
    simpa using this
  refine ⟨a, ks, rfl, .inl (rd_mono s1.wd.le hl), fun p hp => (hk p hp).1, by omega, fun s L hn hsub hall => ?_⟩
  have f1 := s1.wd.free hn
  have s3 : Stp Hf1 M1 H1 Hf1 M1 (upd H1 s (SetTO X.prog X.w s L)) := (Stp.refl s1.wd).other hn f1.2 f1.1
  have hk3 : ∀ p ∈ L, SqT X.K (upd H1 s (SetTO X.prog X.w s L)) p.1 (p.2.map V.int) := fun p hp => by
    obtain ⟨_, b, _, e, rr⟩ := hk p (hsub p hp)
    rw [e]
    cases rr with
    | tup ha hn r =>
      cases r with
      | cons r1 r2 =>
        cases r2 with
        | cons r2 r3 =>
          cases r3
          cases r1
          cases r2
          exact .inl (rd_mono s3.wd.le (.inr ⟨_, ha⟩))
  refine ⟨s, L, 2, 64, rfl, upd_same, hk3, by decide, fun p hp => ?_, fun L' t pm nd _ pw ht => ?_⟩
  · obtain ⟨_, b, hb, e, _⟩ := hk p (hsub p hp)
    obtain ⟨b1, b2, b3, b4⟩ := hsm b hb
    rw [e]
    refine ⟨rfl, fun z hz => ?_⟩
    simp only [prL, List.mem_cons, List.not_mem_nil, or_false] at hz
    rcases hz with rfl | rfl
    · exact ⟨b1, b2⟩
    · exact ⟨b3, b4⟩
  · obtain ⟨out, eo, ro, ho⟩ := rows_pairs (Hf := Hf1) (l := l) (L := L') fun p hp => (hk p (hsub p (pm.mem_iff.mp hp))).2
    have g := Grow.one (o := .lst (L'.map fun q => V.ref q.1)) s3.wd.le ht
    refine k _ _ M1 _ _ ((s1.trans s3).trans (Stp.grow s3.wd g)) (.lst upd_same (ro.mono g.fz)) (q out ?_ fun b => ⟨ho b, fun hb => ?_⟩)
    · have nd2 : (out.map prL).Nodup := by rw [← eo]; exact nd
      have pw2 : (out.map prL).Pairwise (fun q r => TS.code 64 q ≤ TS.code 64 r) := by
        rw [← eo, List.pairwise_map]
        exact pw
      have both := List.pairwise_map.mp (pw2.and nd2)
      refine both.imp_of_mem fun {x y} hx hy ⟨h1, h2⟩ => ?_
      obtain ⟨x1, x2, x3, x4⟩ := hsm x (ho x hx)
      obtain ⟨y1, y2, y3, y4⟩ := hsm y (ho y hy)
      exact pair_lt h1 h2 ⟨x1, x2⟩ ⟨x3, x4⟩ ⟨y1, y2⟩ ⟨y3, y4⟩
    · have h1 : prL b ∈ ks.map (·.2) := by rw [ek]; exact List.mem_map.mpr ⟨b, hb, rfl⟩
      obtain ⟨p, hp, e⟩ := List.mem_map.mp h1
      have h2 := hall p hp
      rw [e, ← (pm.map (·.2)).mem_iff, eo] at h2
      obtain ⟨c, hc', e2⟩ := List.mem_map.mp h2
      rw [← prL_inj e2]
      exact hc'
end
end DL
/-! DP5: rules of a law; steps of a walk with numbers. -/
namespace DL
open PySem PySem.Spec PyProof.Rows L2 Enc TL
/-- a rule with few small conditions -/
structure Gr (r : Rule) : Prop where
  up : Up r.1
  len : r.1.length ≤ 5
  sm : ∀ x ∈ r.1, SmP x
theorem GoodR.gr {v n : Int} {r : Rule} (h : GoodR v n r) (hv : v ≤ 10) : Gr r := ⟨h.2.1, h.len hv, fun x hx => by
  have := h.1 x hx
  unfold SmP
  omega⟩
theorem rw0_mem {rs : List Rule} {k : Nat} (h : k < rs.length) : rw0 rs k ∈ rs := by
  unfold rw0
  rw [getDat h]
  exact List.getElem_mem h
theorem drop_step {rs rs2 : List Rule} {z : Rule} {k : Nat} (e : rs.drop k = z :: rs2) : k < rs.length ∧ rw0 rs k = z ∧ rs.drop (k + 1) = rs2 := by
  refine ⟨?_, ?_, by rw [← List.drop_drop, e]; rfl⟩
  · apply Classical.byContradiction
    intro hn
    rw [List.drop_eq_nil_of_le (by omega)] at e
    cases e
  · unfold rw0
    rw [List.getD_eq_getElem?_getD]
    have := congrArg (fun l => l[0]?) e
    simp only [List.getElem?_drop, Nat.add_zero, List.getElem?_cons_zero] at this
    rw [this]
    rfl
def setsK (rs : List Rule) (r s : Rule) (k : Nat) : List Nat := (List.range k).filter fun i => setC (rw0 rs i) r s
theorem setsK_succ (rs : List Rule) (r s : Rule) (k : Nat) : setsK rs r s (k + 1) = setsK rs r s k ++ (if setC (rw0 rs k) r s = true then [k] else []) := by
  unfold setsK
  rw [List.range_succ, List.filter_append]
  congr 1
  simp only [List.filter_cons, List.filter_nil]
theorem setsK_len (rs : List Rule) (r s : Rule) (k : Nat) : (setsK rs r s k).length ≤ k := by
  unfold setsK
  have := List.length_filter_le (fun i => setC (rw0 rs i) r s) (List.range k)
  rw [List.length_range] at this
  exact this
end DL
/-! DP6: texts of data; verdicts, plainly. -/
namespace DL
open PySem PySem.Spec PyProof.Rows L2 Enc TL
/-- data with a short text: depth, weight -/
def RS (d : Dd) (k w : Nat) : Prop := ∃ p, py d = some p ∧ p.leavesShort 8 = true ∧ p.showable = true ∧ p.depth ≤ k ∧ p.weight ≤ w
theorem RS.int {i : Int} (h : SmallI i) : RS (.int i) 0 7 := by
  obtain ⟨a, b, c⟩ := short_int h
  exact ⟨_, rfl, a, b, Nat.le_refl _, c⟩
theorem RS.non : RS .non 0 0 := ⟨_, rfl, rfl, rfl, Nat.le_refl _, Nat.le_refl _⟩
theorem RS.mono {d : Dd} {k w k' w' : Nat} (h : RS d k w) (hk : k ≤ k') (hw : w ≤ w') : RS d k' w' := by
  obtain ⟨p, a, b, c, d1, e⟩ := h
  exact ⟨p, a, b, c, by omega, by omega⟩
theorem RS.all {k w : Nat} : ∀ {ds : List Dd}, (∀ d ∈ ds, RS d k w) → ∃ ps, pyAll ds = some ps ∧ PyData.leavesShortAll 8 ps = true ∧ PyData.showableAll ps = true ∧ PyData.depthAll ps ≤ k ∧ PyData.weightAll ps ≤ ds.length * (w + 1)
  | [], _ => ⟨[], rfl, rfl, rfl, Nat.zero_le _, Nat.zero_le _⟩
  | d :: ds, h => by
    obtain ⟨p, a, b, c, d1, e⟩ := h d List.mem_cons_self
    obtain ⟨ps, a2, b2, c2, d2, e2⟩ := RS.all fun z hz => h z (List.mem_cons_of_mem _ hz)
    refine ⟨p :: ps, by rw [pyAll, a, a2]; rfl, by rw [PyData.leavesShortAll, b, b2]; rfl, by rw [PyData.showableAll, c, c2]; rfl, ?_, ?_⟩
    · rw [PyData.depthAll]
      omega
    · rw [PyData.weightAll, List.length_cons, Nat.add_mul]
      omega
theorem RS.tup {ds : List Dd} {k w : Nat} (h : ∀ d ∈ ds, RS d k w) : RS (.tup ds) (k + 1) (ds.length * (w + 1)) := by
  obtain ⟨ps, a, b, c, d, e⟩ := RS.all h
  refine ⟨.tuple ps, by rw [py, a]; rfl, b, c, ?_, e⟩
  rw [PyData.depth]
  omega
theorem RS.lst {ds : List Dd} {k w : Nat} (h : ∀ d ∈ ds, RS d k w) : RS (.lst ds) (k + 1) (ds.length * (w + 1)) := by
  obtain ⟨ps, a, b, c, d, e⟩ := RS.all h
  refine ⟨.list ps, by rw [py, a]; rfl, b, c, ?_, e⟩
  rw [PyData.depth]
  omega
theorem RS.repr {d : Dd} {k w : Nat} (h : RS d k w) (hd : (∃ l, d = .lst l) ∨ ∃ l, d = .tup l) (hk : k ≤ 64) (hw : w ≤ 50000) : ∃ z, gRepr [d] = some (.str z) := by
  obtain ⟨p, hp, h1, h2, h3, h4⟩ := h
  have hl := PyData.shown_le 8 (Nat.le_refl _) p h1
  refine ⟨p.shown, ?_⟩
  have e : ((py d).bind fun p => if p.showable = true ∧ p.depth ≤ 64 ∧ p.shown.length ≤ 1000000 then some (Dd.str p.shown) else none) = some (.str p.shown) := by
    rw [hp, Option.bind_some, if_pos ⟨h2, by omega, by omega⟩]
  rcases hd with ⟨l, rfl⟩ | ⟨l, rfl⟩
  · exact e
  · exact e
theorem RS.two {d : Dd} {k w : Nat} (h : RS d k w) (hk : k ≤ 60) (hw : w ≤ 20000) : ∃ z, gRepr [.lst [d, d]] = some (.str z) := by
  refine (RS.lst (ds := [d, d]) (k := k) (w := w) fun z hz => ?_).repr (.inl ⟨_, rfl⟩) (by omega) (by simp; omega)
  simp only [List.mem_cons, List.not_mem_nil, or_false, or_self] at hz
  rw [hz]
  exact h
theorem RS.pair {x : Int × Int} (h1 : SmallI x.1) (h2 : SmallI x.2) : RS (enc x) 1 16 := by
  refine RS.tup (ds := [.int x.1, .int x.2]) (k := 0) (w := 7) fun d hd => ?_
  simp only [List.mem_cons, List.not_mem_nil, or_false] at hd
  rcases hd with rfl | rfl
  · exact RS.int h1
  · exact RS.int h2
theorem RS.case {c : Case} (h : ∀ x ∈ c, SmallI x.1 ∧ SmallI x.2) (hl : c.length ≤ 10) : RS (enc c) 2 170 := by
  refine (RS.tup (ds := c.map enc) (k := 1) (w := 16) fun d hd => ?_).mono (by omega) (by rw [List.length_map]; omega)
  obtain ⟨x, hx, rfl⟩ := List.mem_map.mp hd
  exact RS.pair (h x hx).1 (h x hx).2
theorem RS.rule {r : Rule} (h : okRule r = true) : RS (enc r) 3 342 := by
  unfold okRule at h
  rw [Bool.and_eq_true, betw_iff] at h
  have hc := h.1
  unfold okCase at hc
  rw [Bool.and_eq_true, List.all_eq_true] at hc
  refine (RS.tup (ds := [enc r.1, .int r.2]) (k := 2) (w := 170) fun d hd => ?_).mono (by omega) (by simp)
  simp only [List.mem_cons, List.not_mem_nil, or_false] at hd
  rcases hd with rfl | rfl
  · refine RS.case (fun x hx => ?_) (by have := upC_len h.1; omega)
    have := hc.1 x hx
    unfold okC at this
    rw [Bool.and_eq_true, betw_iff, betw_iff] at this
    exact ⟨⟨by omega, by omega⟩, ⟨by omega, by omega⟩⟩
  · exact (RS.int ⟨by omega, by omega⟩).mono (by omega) (by omega)
/-! ### verdicts -/
def partD (rs : List Rule) (p : Nat × Nat) : Dd := .tup [.int (p.1 : Int), .int (p.2 : Int), .int (((setsN rs p.1 p.2).headD 0 : Nat) : Int)]
def verdD (rs : List Rule) : Dd := match tornN rs with
  | some p => .tup [.str (Str.ofString "torn"), .int (p.1 : Int), .int (p.2 : Int), enc (tog (rw0 rs p.1).1 (rw0 rs p.2).1)]
  | none => .tup [.str (Str.ofString "settled"), .tup ((pairsN rs).map (partD rs))]
theorem pairsN_len {rs : List Rule} (h : rs.length ≤ 12) : (pairsN rs).length ≤ 144 := by
  have h1 := rowsN_len rs rs.length
  have h3 : rs.length * rs.length ≤ 12 * 12 := Nat.mul_le_mul h h
  unfold pairsN
  omega
theorem RS.verd {rs : List Rule} (h12 : rs.length ≤ 12) (ok : ∀ r ∈ rs, okRule r = true) : RS (verdD rs) 5 8000 := by
  have sm : ∀ p ∈ pairsN rs, SmallI (p.1 : Int) ∧ SmallI (p.2 : Int) := fun p hp => by
    obtain ⟨h1, h2, _⟩ := mem_pairsN.mp hp
    exact ⟨⟨by omega, by omega⟩, ⟨by omega, by omega⟩⟩
  unfold verdD
  cases ht : tornN rs with
  | none =>
    refine (RS.tup (ds := [.str (Str.ofString "settled"), .tup ((pairsN rs).map (partD rs))]) (k := 2) (w := 3600) fun d hd => ?_).mono (by omega) (by simp)
    simp only [List.mem_cons, List.not_mem_nil, or_false] at hd
    rcases hd with rfl | rfl
    · exact ⟨_, rfl, by decide +kernel, by decide +kernel, by decide, by decide +kernel⟩
    · refine (RS.tup (ds := (pairsN rs).map (partD rs)) (k := 1) (w := 24) fun d hd => ?_).mono (by omega) (by rw [List.length_map]; have := pairsN_len h12; omega)
      obtain ⟨p, hp, rfl⟩ := List.mem_map.mp hd
      refine (RS.tup (ds := [.int (p.1 : Int), .int (p.2 : Int), .int (((setsN rs p.1 p.2).headD 0 : Nat) : Int)]) (k := 0) (w := 7) fun d hd => ?_).mono (by omega) (by simp)
      simp only [List.mem_cons, List.not_mem_nil, or_false] at hd
      rcases hd with rfl | rfl | rfl
      · exact RS.int (sm p hp).1
      · exact RS.int (sm p hp).2
      · refine RS.int ?_
        have : (setsN rs p.1 p.2).headD 0 < 12 ∨ (setsN rs p.1 p.2).headD 0 = 0 := by
          cases hs : setsN rs p.1 p.2 with
          | nil => exact .inr rfl
          | cons k l =>
            left
            have : k ∈ setsN rs p.1 p.2 := by rw [hs]; exact List.mem_cons_self
            have := List.mem_range.mp (List.mem_filter.mp this).1
            show k < 12
            omega
        exact ⟨by omega, by omega⟩
  | some p =>
    have hp := List.mem_of_find?_eq_some ht
    obtain ⟨h1, h2, _⟩ := mem_pairsN.mp hp
    refine (RS.tup (ds := [.str (Str.ofString "torn"), .int (p.1 : Int), .int (p.2 : Int), enc (tog (rw0 rs p.1).1 (rw0 rs p.2).1)]) (k := 2) (w := 170) fun d hd => ?_).mono (by omega) (by simp)
    have hg : ∀ k, k < rs.length → (rw0 rs k).1.length ≤ 5 ∧ ∀ x ∈ (rw0 rs k).1, SmallI x.1 ∧ SmallI x.2 := fun k hk => by
      have h := ok _ (rw0_mem hk)
      unfold okRule at h
      rw [Bool.and_eq_true] at h
      have hc := h.1
      unfold okCase at hc
      rw [Bool.and_eq_true, List.all_eq_true] at hc
      refine ⟨upC_len h.1, fun x hx => ?_⟩
      have := hc.1 x hx
      unfold okC at this
      rw [Bool.and_eq_true, betw_iff, betw_iff] at this
      exact ⟨⟨by omega, by omega⟩, ⟨by omega, by omega⟩⟩
    simp only [List.mem_cons, List.not_mem_nil, or_false] at hd
    rcases hd with rfl | rfl | rfl | rfl
    · exact ⟨_, rfl, by decide +kernel, by decide +kernel, by decide, by decide +kernel⟩
    · exact (RS.int (sm p hp).1).mono (by omega) (by omega)
    · exact (RS.int (sm p hp).2).mono (by omega) (by omega)
    · refine RS.case (fun x hx => ?_) ?_
      · rcases mem_tog.mp hx with z | z
        · exact (hg p.1 (by omega)).2 x z
        · exact (hg p.2 h2).2 x z
      · have := tog_len (rw0 rs p.1).1 (rw0 rs p.2).1
        have := (hg p.1 (by omega)).1
        have := (hg p.2 h2).1
        omega
/-- the first pair that none settles -/
theorem torn_at {rs : List Rule} {ps1 ps2 : List (Nat × Nat)} {p : Nat × Nat} (e : pairsN rs = ps1 ++ p :: ps2) (h1 : ∀ q ∈ ps1, setsN rs q.1 q.2 ≠ []) (h2 : setsN rs p.1 p.2 = []) : tornN rs = some p := by
  unfold tornN
  rw [e, List.find?_append]
  have : ps1.find? (fun p => (setsN rs p.1 p.2).isEmpty) = none := by
    rw [List.find?_eq_none]
    intro q hq hz
    exact h1 q hq (List.isEmpty_iff.mp hz)
  rw [this, List.find?_cons, h2]
  rfl
theorem torn_no {rs : List Rule} (h1 : ∀ q ∈ pairsN rs, setsN rs q.1 q.2 ≠ []) : tornN rs = none := by
  unfold tornN
  rw [List.find?_eq_none]
  intro q hq hz
  exact h1 q hq (List.isEmpty_iff.mp hz)
theorem torn_yes {rs : List Rule} (h : tornN rs = none) : ∀ q ∈ pairsN rs, setsN rs q.1 q.2 ≠ [] := by
  intro q hq e
  unfold tornN at h
  rw [List.find?_eq_none] at h
  exact h q hq (by rw [e]; rfl)
end DL
/-! DK1: sorted(xs, key=f), f a def of the text. -/
namespace DL
open PySem PySem.Spec PyProof.Rows L2 Enc PySem.Calls
open PySem.W (EachIs alike AllAlike Sortable dataLe SortsAt dataKind sortVals sortingHeap sortingHeap_old each_map bound_map KeepsBut keyH_end KeyedOut keyedOut_each copyHeap copyHeap_at copyHeap_old)
/-- the call of a def out of a built-in that stands over X's frame -/
theorem run_G2 {X : Cx} {k : Nat} {f : Addr} {sp : Sp} {pins : List (Addr × Obj)} {σ : L2.St} {H : Hp} {s : Shared} {Q : VK} {us : List Value} {vs : List V} (F : FR bm X.prog X.w X.K X.mg X.base k f sp) (bA : Bare bm X.A) (hr : Room (k + 1) X.A)
    (I : Inv X pins σ H s) (r : Vals vs us) (h : sp vs H Q fun _ _ _ => False) : wpAny (model X.prog X.w) X.A.in1.in1 (call (.ref f) us) (EP X pins σ Q) (fun _ _ => False) s := by
  apply wpAny_call
  have room : Room k X.A.in1.in1 := ⟨hr.hd, by have := hr.dp; show X.A.depth + 3 * k + 5 < _; omega, by have := hr.un; show X.A.units + 1 + 1 + 16 * k + 200 < _; omega⟩
  apply codeAny_mono (F X.A.in1.in1 X.stack s H us vs Q (fun _ _ _ => False) bA room I.env0.in1.in1 r h)
  intro r s' hq
  cases r with
  | error e =>
    obtain ⟨_, _, _, _, _, _, _, _, _, _, _, _, z⟩ := hq
    exact z
  | ok fl =>
    cases fl with
    | ret u => exact I.after hq
    | _ => exact hq
section
variable {X : Cx} {σ : L2.St} {A2 : Around} {f : Value} {a kS : Addr} {e1 : Nat} {vs : List Value} {xs : List V} {pins : List (Addr × Obj)} {P : PySem.Fin → Shared → Prop} {E : Value → Shared → Prop}
/-- the keys, one by one -/
theorem key_rest (G : Nat → Hp → List V → Prop) (rv : Vals xs vs) (hz : vs.length ≤ sizeLine) (hne : kS ≠ a)
    (stat : ∀ H', H' kS = none → H' a = none → FpOk X pins H' kS ∧ FpOk X pins H' a)
    (turn : ∀ (i : Nat) (x : V) (u : Value) (pins : List (Addr × Obj)) (H : Hp) (s : Shared) (ks : List V), xs[i]? = some x → RelV x u → Inv X pins σ H s → G i H ks → wpAny (model X.prog X.w) A2 (call f [u]) (EP X pins σ fun kv H' => G (i + 1) H' (ks ++ [kv])) (fun _ _ => False) s)
    (fin : ∀ (s' : Shared) (H' : Hp) (ks : List V) (kA : Array Value) (e : Nat), Inv X pins σ H' s' → H' kS = none → H' a = none → s'.heap.get? kS = some (seqObj "list" kA e) → s'.heap.get? a = some (seqObj "list" #[] e1) → Vals ks kA.toList → ks.length = xs.length → G xs.length H' ks →
      wpAny (model X.prog X.w) A2 (ksk_end a false vs.toArray e1 (.ref kS) kA) P E s') :
    ∀ (s : Shared) (H : Hp), Inv X pins σ H s → H kS = none → H a = none → s.heap.get? kS = some (seqObj "list" #[] 0) → s.heap.get? a = some (seqObj "list" #[] e1) → G 0 H [] →
      wpAny (model X.prog X.w) A2 (ksk_rest a f false vs.toArray e1 (.ref kS)) P E s := by
  intro s H I hk ha nk na g0
  have lxv : xs.length = vs.length := rv.length
  unfold ksk_rest
  apply wpAny_bind
  apply wpAny_rule
  first
    | rw [List.forIn_toArray]
    | (rw [← Array.forIn_toList]; simp only [List.toList_toArray])
  apply wpAny_bind
  apply ksk_fold (fun i s' => ∃ H' ks kA e, Inv X pins σ H' s' ∧ H' kS = none ∧ H' a = none ∧ s'.heap.get? kS = some (seqObj "list" kA e) ∧ s'.heap.get? a = some (seqObj "list" #[] e1) ∧ Vals ks kA.toList ∧ ks.length = i ∧ G i H' ks) vs 0 s
    ⟨H, [], #[], 0, I, hk, ha, nk, na, .nil, rfl, g0⟩
  · rintro j u s' hu ⟨H', ks, kA, e, I', hk', ha', nk', na', vk, lk, gk⟩
    simp only [Nat.zero_add] at lk gk ⊢
    have hj : j < vs.length := (List.getElem?_eq_some_iff.mp hu).1
    obtain ⟨x, hx, rx⟩ : ∃ x, xs[j]? = some x ∧ RelV x u := by
      have key : ∀ {xs : List V} {vs : List Value}, Vals xs vs → ∀ {j : Nat} {u : Value}, vs[j]? = some u → ∃ x, xs[j]? = some x ∧ RelV x u := by
        intro xs vs h
        induction h with
        | nil => intro j u e; simp at e
        | cons r t ih =>
          intro j u e
          cases j with
          | zero => simp at e; subst e; exact ⟨_, rfl, r⟩
          | succ j => exact ih (by simpa using e)
      exact key rv hu
    obtain ⟨f1, f2⟩ := stat H' hk' ha'
    have Ip : Inv X (pins ++ [(kS, seqObj "list" kA e), (a, seqObj "list" #[] e1)]) σ H' s' := I'.pins_of fun p hp => by
      rcases List.mem_append.mp hp with hp | hp
      · exact I'.pin p (List.mem_append_right _ hp)
      · simp only [List.mem_cons, List.not_mem_nil, or_false] at hp
        rcases hp with rfl | rfl
        · exact ⟨nk', hk', f1.2.1, f1.2.2.1, fun v => nofun⟩
        · exact ⟨na', ha', f2.2.1, f2.2.2.1, fun v => nofun⟩
    apply wpAny_bind
    apply wpAny_attempt
    apply wpAny_mono (turn j x u _ H' s' ks hx rx Ip gk)
    · rintro kv s2 ⟨v, H2, I2, r2, g2⟩
      have p1 := I2.pin (kS, seqObj "list" kA e) (by simp)
      have p2 := I2.pin (a, seqObj "list" #[] e1) (by simp)
      have I3 : Inv X pins σ H2 s2 := I2.unpinned
      obtain ⟨f1, f2⟩ := stat H2 p1.2.1 p2.2.1
      have lka : kA.size = j := by
        have h1 := vk.length
        have h2 : kA.toList.length = kA.size := Array.length_toList
        omega
      try dsimp only
      apply wpAny_bind
      refine listUpdate_at p1.1 rfl ?_ (by omega) (by rw [Array.size_push]; omega)
      have hs := Heap.SameBut.update s2.heap kS (Obj.mapSeq (·.push kv))
      obtain ⟨c2, hc2⟩ : ∃ c2, (s2.heap.update kS (Obj.mapSeq (·.push kv))).get? kS = some (seqObj "list" (kA.push kv) c2) := ⟨_, get?_update_seq p1.1 (·.push kv)⟩
      apply wpAny_pure
      refine ⟨rfl, H2, ks ++ [v], kA.push kv, c2, ?_, p1.2.1, p2.2.1, hc2, (hs.2 a hne.symm).trans p2.1, ?_, by rw [List.length_append, lk]; rfl, g2⟩
      · exact I3.turned (t' := s2.toks) (it := kS) (fun b o hb e => (hs.2 b hb).trans e) f1.1 f1.2.1 f1.2.2.2.1 f1.2.2.2.2.1 f1.2.2.2.2.2
      · rw [Array.toList_push]
        exact vk.append (.cons r2 .nil)
    · intro _ _ z
      exact z.elim
  · rintro s' ⟨H', ks, kA, e, I', hk', ha', nk', na', vk, lk, gk⟩
    simp only [Nat.zero_add] at lk gk
    rw [← lxv] at lk gk
    try dsimp only
    apply wpAny_bind
    apply listItems_at nk' rfl
    exact fin s' H' ks kA e I' hk' ha' nk' na' vk lk gk
/-- what is left behind the sort -/
theorem key_end {β : Type} {R : Value → β → Prop} {bs : List β} {k : β → PyData} {H : Hp} {s : Shared} {ks : List V} {kA : Array Value} {e : Nat} (I : Inv X pins σ H s) (hk : FpOk X pins H kS) (ha : FpOk X pins H a) (hne : kS ≠ a) (nk : s.heap.get? kS = some (seqObj "list" kA e)) (na : s.heap.get? a = some (seqObj "list" #[] e1))
    (vk : Vals ks kA.toList) (dk : EachIs (fun x b => Dp X.K H x (k b)) ks bs) (eb : EachIs R vs bs) (hal : AllAlike (bs.map k)) (hsk : Sortable (bs.map k)) (hu : ∀ b, b ∈ bs → A2.units + (k b).depth < cLine) (hz : vs.length ≤ sizeLine)
    (h : ∀ (out : List Value) (s' : Shared), EachIs R out (bs.mergeSort (dataLe false k)) → (∀ xs : List V, Vals xs out → Inv X pins σ (upd H a (.lst xs)) s') → P (.done (.ret .none)) s') :
    wpAny (model X.prog X.w) A2 (ksk_end a false vs.toArray e1 (.ref kS) kA) P E s := by
  have er : EachIs (fun v d => ∃ as, Reads s.heap v d as) kA.toList (bs.map k) := by
    have key : ∀ {ks : List V} {us : List Value} {bs : List β}, Vals ks us → EachIs (fun x b => Dp X.K H x (k b)) ks bs → EachIs (fun v d => ∃ as, Reads s.heap v d as) us (bs.map k) := by
      intro ks us bs v d
      induction d generalizing us with
      | nil => cases v; exact .nil
      | cons hd t ih =>
        cases v with
        | cons r v => exact .cons (Dp.reads I _ _ _ hd r) (ih v)
    exact key vk dk
  have ln : kA.size = vs.length := by
    have h1 := er.length
    rw [Array.length_toList, List.length_map] at h1
    rw [h1, eb.length]
  obtain ⟨G, g1, g2⟩ := restrict s.heap fun b => decide (b ≠ kS)
  have kp : KeepsBut a G s.heap := fun b o hb q => by
    by_cases hbk : b = kS
    · rw [g2 b (by simp [hbk])] at q; cases q
    · rw [g1 b (by simp [hbk])] at q; exact q
  have S : SortsAt X.prog X.w A2 s (dataKind s.heap (bs.map k)) kA.toList := SortsAt.data (s := s) er hal hsk (fun d hd => by
    obtain ⟨b, hb, rfl⟩ := List.mem_map.mp hd
    exact hu b hb)
  apply keyH_end (h₁ := G) kp (g2 kS (by simp)) nk na hne S ln hz
  intro h' tk c kb nb
  have ko : KeyedOut false (bs.map k) vs (sortVals (dataKind s.heap (bs.map k)) false kA.toList vs) := ⟨s.heap, kA.toList, hal, rfl, er⟩
  refine h _ _ (keyedOut_each k ko eb) fun xs hv => ?_
  have kept : ∀ b o, b ≠ a → b ≠ kS → s.heap.get? b = some o → h'.get? b = some o := fun b o h1 h2 q => kb b o h1 (by rw [g1 b (by simp [h2])]; exact q)
  -- first the keys' store, then the list
  obtain ⟨M1, m1, m2⟩ : ∃ M1 : Heap, (∀ b o, b ≠ kS → s.heap.get? b = some o → M1.get? b = some o) ∧ ∀ b o, b ≠ a → M1.get? b = some o → h'.get? b = some o := by
    obtain ⟨G2, y1, y2⟩ := restrict s.heap fun b => decide (b ≠ kS)
    refine ⟨G2, fun b o hb q => ?_, fun b o hb q => ?_⟩
    · rw [y1 b (by simp [hb])]; exact q
    · by_cases hbk : b = kS
      · rw [y2 b (by simp [hbk])] at q; cases q
      · rw [y1 b (by simp [hbk])] at q; exact kept b o hb hbk q
  have I1 : Inv X pins σ H { s with heap := M1, toks := tk } := I.turned (it := kS) (t' := tk) m1 hk.1 hk.2.1 hk.2.2.2.1 hk.2.2.2.2.1 hk.2.2.2.2.2
  refine I1.take (it := a) (h' := h') (t' := tk) m2 ha ?_
  refine ⟨?_, (sortVals (dataKind s.heap (bs.map k)) false kA.toList vs), c, hv, nb⟩
  rw [hv.length]
  have := ko.length (by rw [List.length_map, eb.length])
  omega
end
end DL
/-! DK2: sorted(xs, key=f) by data. -/
namespace DL
open PySem PySem.Spec PyProof.Rows L2 Enc PySem.Calls
open PySem.W (EachIs alike AllAlike Sortable dataLe dataLt SortsAt dataKind sortingHeap sortingHeap_old copyHeap copyHeap_at copyHeap_old sorting_copy_old)
theorem args_sortedK (a v : Value) : argsOk "sorted" ⟨[a], [(Str.ofString "key", v)]⟩ := by
  unfold argsOk
  kernel_rfl
theorem args_sortK (a v : Value) : argsOk "list.sort" ⟨[a], [(Str.ofString "key", v)]⟩ := by
  unfold argsOk
  kernel_rfl
theorem each_repK {α κ : Type} [Enc κ] {H : Hp} {kf : α → κ} : ∀ {bs : List α} {xs : List V}, RepAll H xs (bs.map fun b => enc (kf b)) → EachIs (fun x b => Rep H x (enc (kf b))) xs bs
  | [], _, .nil => .nil
  | _ :: _, _, .cons h r => .cons h (each_repK r)
theorem merge_ascK {α κ : Type} [EncO κ] (kf : α → κ) (l : List α) : (l.mergeSort (dataLe false fun b => pe (kf b))).Pairwise fun x y => EncO.lt (kf y) (kf x) = false := by
  refine (PySem.W.sort_pairwise (PySem.W.sortLe_total _ false _) l).imp fun {a b} h => ?_
  have h : (!dataLt (pe (kf b)) (pe (kf a))) = true := h
  rw [EncO.ltp, Bool.not_eq_true'] at h
  exact h
section
variable {X : Cx} {W : WX} {α κ : Type} [Enc α] [EncS κ] {kf : α → κ} {sp : DSp} {k : Nat} {f : Addr}
/-- the sort itself, on the new list of the items -/
theorem key_body {pins : List (Addr × Obj)} {σ : L2.St} {H Hf : Hp} {M : MS} {s : Shared} {xs : List V} {its : List Value} {bs : List α} {Q : VK} {E' : Value → Shared → Prop} (F : FR bm X.prog X.w X.K X.mg X.base k f (lift 1 sp)) (bA : Bare bm X.A) (hr : Room (k + 1) X.A) (hu : X.A.units + 150 < cLine)
    (I : Inv X pins σ H s) (rv : Vals xs its) (hz : its.length ≤ sizeLine) (wd : Wd Hf M H) (ra : RepAll Hf xs (bs.map enc)) (hsp : ∀ x ∈ bs, ∀ Q' : QD, Q' (enc (kf x)) M → sp [enc x] M Q' X0)
    (q : ∀ Hf' H' p ys (out : List α), Stp Hf M H Hf' M H' → RepAll Hf' ys (out.map enc) → H' p = none → out.Perm bs → (out.Pairwise fun x y => EncO.lt (kf y) (kf x) = false) → Q (.ref p) (upd H' p (.lst ys))) :
    wpAny (model X.prog X.w) X.A.in1.in1 (Builtin.«list.sort» ⟨[.ref (s.heap.objs.size + 1)], [(Str.ofString "key", .ref f)]⟩) (fun g t => g = .done (.ret .none) ∧ EP X pins σ Q (.ref (s.heap.objs.size + 1)) t) E' { s with heap := copyHeap s.heap its } := by
  rw [ksk_t1]
  have at1 := copyHeap_at s.heap its
  generalize ea : s.heap.objs.size + 1 = a at at1 ⊢
  have lxi : xs.length = its.length := rv.length
  have lxb : xs.length = bs.length := by rw [ra.length, List.length_map]
  obtain ⟨e1, at2⟩ : ∃ e1, ((copyHeap s.heap its).update a (Obj.mapSeq fun _ => (#[] : Array Value))).get? a = some (seqObj "list" #[] e1) := ⟨_, get?_update_seq at1 fun _ => #[]⟩
  have hlt : a < (copyHeap s.heap its).objs.size := Heap.lt_size at1
  unfold ksk_tree
  apply wpAny_bind
  apply listItems_at at1 rfl
  apply wpAny_bind
  refine listUpdate_at at1 rfl ?_ (by rw [List.size_toArray]; exact hz) (Nat.zero_le _)
  apply wpAny_bind
  apply seqEpoch_at at2 rfl
  apply wpAny_bind
  refine wpAny_newTuple ?_ (by rw [List.toList_toArray]; exact hz)
  apply wpAny_bind
  refine wpAny_newList ?_ (Nat.zero_le _)
  apply wpAny_holding
  have hsz : (((copyHeap s.heap its).update a (Obj.mapSeq fun _ => (#[] : Array Value))).push (seqObj "tuple" its.toArray 0)).objs.size = (copyHeap s.heap its).objs.size + 1 := by rw [size_push', Heap.size_update]
  show wpAny _ _ (ksk_rest a (.ref f) false its.toArray e1 (.ref (((copyHeap s.heap its).update a (Obj.mapSeq fun _ => (#[] : Array Value))).push (seqObj "tuple" its.toArray 0)).objs.size)) _ _ { s with heap := sortingHeap (copyHeap s.heap its) a its }
  have at3 : (sortingHeap (copyHeap s.heap its) a its).get? (((copyHeap s.heap its).update a (Obj.mapSeq fun _ => (#[] : Array Value))).push (seqObj "tuple" its.toArray 0)).objs.size = some (seqObj "list" #[] 0) := Heap.get?_push_size _ rfl
  have at4 : (sortingHeap (copyHeap s.heap its) a its).get? a = some (seqObj "list" #[] e1) := Heap.get?_push_of_some _ (Heap.get?_push_of_some _ at2)
  rw [hsz] at at3 ⊢
  generalize ek : (copyHeap s.heap its).objs.size + 1 = kS at at3 ⊢
  have hne : kS ≠ a := by omega
  have ga : s.heap.objs.size ≤ a := by omega
  have gk : s.heap.objs.size ≤ kS := by omega
  have kept : ∀ b o, s.heap.get? b = some o → (sortingHeap (copyHeap s.heap its) a its).get? b = some o := fun b o e => by
    rw [← ea]
    exact sorting_copy_old e
  have I1 : Inv X pins σ H { s with heap := sortingHeap (copyHeap s.heap its) a its, toks := s.toks } := I.kept (t' := s.toks) kept
  have stat : ∀ H', H' kS = none → H' a = none → FpOk X pins H' kS ∧ FpOk X pins H' a := fun H' h1 h2 => ⟨I.fpOk gk h1, I.fpOk ga h2⟩
  refine key_rest (xs := xs) (pins := pins) (σ := σ) (fun i H' ks => ∃ Hf', Stp Hf M H Hf' M H' ∧ RepAll Hf' ks ((bs.take i).map fun b => enc (kf b))) rv hz hne stat ?_ ?_ _ H I1 (I.hok.fresh gk) (I.hok.fresh ga) at3 at4 ⟨Hf, Stp.refl wd, .nil⟩
  · rintro i x u pins' H' s' ks hx rx I' ⟨Hf', st, rk⟩
    obtain ⟨d, hd, rd⟩ := ra.get hx
    rw [List.getElem?_map] at hd
    obtain ⟨b, hb, rfl⟩ := Option.map_eq_some_iff.mp hd
    refine run_G2 F bA hr I' (.cons rx .nil) ?_
    refine ⟨[enc b], Hf', M, fun d M' => d = enc (kf b) ∧ M' = M, X0, rfl, .cons (rd.mono st.up) .nil, st.wd, hsp b (List.mem_of_getElem? hb) _ ⟨rfl, rfl⟩, ?_, fun _ _ _ _ _ z => z⟩
    rintro d Hf2 M2 v H2 s2 r2 ⟨rfl, rfl⟩
    refine ⟨Hf2, st.trans s2, ?_⟩
    rw [List.take_add_one, hb]
    simp only [Option.toList_some, List.map_append, List.map_cons, List.map_nil]
    exact (rk.mono s2.up).append (.cons r2 .nil)
  · rintro s' H' ks kA e I' hk ha nk na vk lk ⟨Hf', st, rk⟩
    rw [lxb, List.take_length] at rk
    have hd := EncS.sh (α := κ)
    refine key_end (R := fun u b => ∃ x, RelV x u ∧ Rep Hf x (enc b)) (bs := bs) (k := fun b => pe (kf b)) I' (stat H' hk ha).1 (stat H' hk ha).2 hne nk na vk (each_mono (fun x b h => (h.mono st.wd.le).dp (hp (kf b))) (each_repK rk)) (each_vals rv (each_rep ra)) (.of fun x y => EncO.al (kf x) (kf y)) ?_ (fun b _ => ?_) hz fun out s'' eo fin => ⟨rfl, ?_⟩
    · rcases EncS.srt (α := κ) with h | h
      · exact .tuples fun b => h (kf b)
      · exact .others fun b => h (kf b)
    · have := dp (kf b)
      show X.A.units + 1 + 1 + _ < _
      omega
    · obtain ⟨ys, vy, ty⟩ := each_back eo
      exact ⟨.ref a, _, fin ys vy, rfl, q Hf' H' a ys _ st ((rep_each ty).mono st.up) ha (List.mergeSort_perm _ _) (merge_ascK kf bs)⟩
/-- sorted(xs, key=f): xs a list or a tuple of data, f a def that gives its key and changes nothing -/
def wSortK (kf : α → κ) (sp : DSp) (we : DL.WE) : DL.WE := fun sl M Q E => we sl M (fun d M1 => ∃ l : List α, seqOf [der M1 d] = some (l.map enc) ∧ (∀ x ∈ l, ∀ Q' : QD, Q' (enc (kf x)) M1 → sp [enc x] M1 Q' X0) ∧
  ∀ out : List α, out.Perm l → (out.Pairwise fun x y => EncO.lt (kf y) (kf x) = false) → Q (.lst (out.map enc)) M1) E
theorem d_sortK {e : Expr} {pos p kp kpos : Pos} {we : DL.WE} {kn : Str} (kf : α → κ) (F : Fn bm X.prog X.w X.K X.mg X.base kn 1 k sp) (bA : Bare bm X.A) (hr : Room (k + 1) X.A) (hu : X.A.units + 150 < cLine) (hg : Gl X "sorted") (hm : X.mg "sorted" = none) (hgk : Gl X kn) (he : PE X e (low W we))
    (hdk : (kn == ("__debug__" : Str)) = false := by decide) (hs : starEach [e] X.env = (false, eval e X.env) :: starEach [] X.env := by rfl) (h1 : backTo pos (starEach [e] X.env) = (false, eval e X.env) :: backTo pos (starEach [] X.env) := by rfl)
    (h2 : (backTo pos (starEach [e] X.env)).any (·.1) = false := by rfl) (h3 : (backToKw pos (keywordEach [⟨some (Str.ofString "key"), .Name kn kp, kpos⟩] X.env)).all (·.1.isSome) = true := by rfl)
    (h4 : (backToKw pos (keywordEach [⟨some (Str.ofString "key"), .Name kn kp, kpos⟩] X.env)).any (·.1.isNone) = false := by rfl) (h5 : (backToKw pos (keywordEach [⟨some (Str.ofString "key"), .Name kn kp, kpos⟩] X.env)).filterMap (·.1) = [Str.ofString "key"] := by rfl) :
    PE X (.Call (.Name "sorted" p) [e] [⟨some (Str.ofString "key"), .Name kn kp, kpos⟩] pos) (low W (wSortK kf sp we)) := by
  obtain ⟨f, F, hmf, _⟩ := F.ex
  have cr : CallRK X (.builtin "sorted") [Str.ofString "key"] (fun vs zs H Q => zs = [V.ref f] ∧ ∃ (l : Addr) (xs : List V) (bs : List α) (Hf : Hp) (M : MS), vs = [V.ref l] ∧ (SqL X.K H l xs ∨ SqT X.K H l xs) ∧ Wd Hf M H ∧ RepAll Hf xs (bs.map enc) ∧ (∀ x ∈ bs, ∀ Q' : QD, Q' (enc (kf x)) M → sp [enc x] M Q' X0) ∧
      ∀ Hf' H' p ys (out : List α), Stp Hf M H Hf' M H' → RepAll Hf' ys (out.map enc) → H' p = none → out.Perm bs → (out.Pairwise fun x y => EncO.lt (kf y) (kf x) = false) → Q (.ref p) (upd H' p (.lst ys))) := by
    rintro pins s σ H vs zs us ws Q I r1 r2 ⟨rfl, l, xs, bs, Hf, M, rfl, hs, wd, ra, hsp, q⟩
    rw [Vals.ref1 r1, Vals.ref1 r2]
    rcases hs with hs | hs
    · obtain ⟨its, rv, hl, hz⟩ := I.list hs
      have hz : its.length ≤ sizeLine := by rw [← rv.length]; exact hz
      exact PySem.W.sorted_of_sort hl.isList hz (args_sortedK _ _) (fun _ => args_sortK _ _) fun E' => key_body F bA hr hu I rv hz wd ra hsp q
    · obtain ⟨its, rv, hl, hz⟩ := I.tuple hs
      have hz : its.length ≤ sizeLine := by rw [← rv.length]; exact hz
      exact sortedT_of hl hz (args_sortedK _ _) (fun _ => args_sortK _ _) fun E' => key_body F bA hr hu I rv hz wd ra hsp q
  refine PE.imp (pe_callBK cr hg hm (by kernel_rfl) (pa_cons he pa_nil hs) (pk_cons (pe_glob (v := .ref f) hgk hmf rfl hdk) pk_nil) (by decide) (by decide) h1 h2 h3 h4 h5) fun σ H Q ⟨sl, Hf, M, Qd, Xd, rl, w, k, kx⟩ => ⟨sl, Hf, M, _, Xd, rl, w, fun d Hf1 M1 v H1 s1 r1 ⟨bs, ed, hsp, q⟩ => ?_, kx⟩
  obtain ⟨l, xs, ev, hq, ra⟩ : ∃ l xs, v = V.ref l ∧ (SqL X.K H1 l xs ∨ SqT X.K H1 l xs) ∧ RepAll Hf1 xs (bs.map enc) := by
    have rt := RepT.of s1.wd r1
    have ed : der M1 d = .lst (bs.map enc) ∨ der M1 d = .tup (bs.map enc) := by
      unfold seqOf at ed
      split at ed
      · rename_i z; cases ed; exact .inl (by simpa using z)
      · rename_i z; cases ed; exact .inr (by simpa using z)
      · cases ed
    rcases ed with ed | ed
    · rw [ed] at rt
      obtain ⟨l, xs, e, hl, r⟩ := rt.lst s1.wd.le
      exact ⟨l, xs, e, .inl (.of hl), r⟩
    · rw [ed] at rt
      obtain ⟨l, xs, e, hl, r⟩ := rt.tup
      exact ⟨l, xs, e, .inr (.inl (rd_mono s1.wd.le hl)), r⟩
  subst ev
  refine ⟨rfl, l, xs, bs, Hf1, M1, rfl, hq, s1.wd, ra, hsp, fun Hf' H' p ys out st ry hn pm asc => ?_⟩
  have g := Grow.one (o := .lst ys) st.wd.le hn
  exact k _ _ M1 _ _ ((s1.trans st).trans (Stp.grow st.wd g)) (.lst upd_same (ry.mono g.fz)) (q out pm asc)
end
end DL
/-! DT1: try with except clauses; orders are total. -/
namespace DL
open PySem PySem.Spec PyProof.Rows L2 Enc
/-- what is asked of an exception: the first clause of its class -/
def exGo (K : PySem.W.Frag) (E : DE) : List (Addr × WS) → Value → DS → MS → Prop
  | [], c, sl, M => E.ex c sl M
  | (C, ws) :: r, c, sl, M => ∃ b, PySem.W.exmOne K c (.ref C) = some b ∧ (b = true → ws { E with ex := fun _ _ _ => False } sl M) ∧ (b = false → exGo K E r c sl M)
def wTryX (K : PySem.W.Frag) (l : List (Addr × WS)) (w : WS) : WS := fun E sl M => w { E with ex := exGo K E l } sl M
/-- the clauses: a class of the text, a suite that raises nothing -/
inductive HdsD (X : Cx) : List ExceptHandler → List (Addr × WS) → Prop
  | nil : HdsD X [] []
  | cons {x : Str} {C : Addr} {ws : WS} {b₀ : Stmt} {suite : List Stmt} {np pos' : Pos} {hds : List ExceptHandler} {l : List (Addr × WS)} (hc : Names X x (.ref C)) (hsu : ∀ (a : Addr) (pn : List (Addr × Obj)), PSs (X.suite a pn) (b₀ :: suite) (lowS W0 ws)) (r : HdsD X hds l) :
      HdsD X (.ExceptHandler (some (.Name x np)) none (b₀ :: suite) pos' :: hds) ((C, ws) :: l)
def hdl (p : Addr × WS) : Value × (Addr → Value → Option Addr → TS) := (.ref p.1, fun _ _ _ => lowS W0 p.2)
theorem HdsD.ok {X : Cx} {hds : List ExceptHandler} {l : List (Addr × WS)} (h : HdsD X hds l) : HdsOk X hds (l.map hdl) := by
  induction h with
  | nil => exact .nil
  | cons hc hsu _ ih => exact .cons hc (fun a oe _ _ pn _ _ => hsu a ((a, oe) :: pn)) ih
theorem s_tryX {X : Cx} {W : WX} {body : List Stmt} {h₀ : ExceptHandler} {hds : List ExceptHandler} {l : List (Addr × WS)} {w : WS} {pos : Pos} (K : PySem.W.Frag) (hK : X.K = K) (hs : X.stack = X.env :: X.outer) (hf : X.env.frame = some X.env.locals) (tk : Takes X W)
    (hb : ∀ (W' : WX) (pn : List (Addr × Obj)) (xe : Value → Shared → Prop), Takes (X.tr pn xe) W' → PassesOwn (model X.prog X.w) X.A X.env xe → PSs (X.tr pn xe) body (lowS W' w)) (hh : HdsD X (h₀ :: hds) l) :
    PS X (.Try body (h₀ :: hds) [] [] pos) (lowS W (wTryX K l w)) := by
  subst hK
  refine PS.imp (ps_try_many hs hf tk (tb := fun W' => lowS W' w) hb hh.ok) fun D σ H ⟨sl, Hf, M, E, rl, hw, k1, k2, k3, k4, k5⟩ => ⟨sl, Hf, M, { E with ex := exGo X.K E l }, rl, hw, k1, k2, k3, k4, fun c sl' Hf' M' σ' H' st rl' hx => ?_⟩
  have key : ∀ l : List (Addr × WS), exGo X.K E l c sl' M' → wMany X.K W D (l.map hdl) c none σ' H' := by
    intro l
    induction l with
    | nil => intro hx; exact k5 c sl' Hf' M' σ' H' st rl' hx
    | cons p r ih =>
      rintro ⟨b, hb, y1, y2⟩
      refine ⟨b, hb, fun e a _ => ⟨sl', Hf', M', { E with ex := fun _ _ _ => False }, rl', y1 e, fun x1 x2 x3 x4 x5 s => k1 x1 x2 x3 x4 x5 (st.trans s), fun x1 x2 x3 x4 x5 s => k2 x1 x2 x3 x4 x5 (st.trans s), fun x1 x2 x3 x4 x5 s => k3 x1 x2 x3 x4 x5 (st.trans s), fun x1 x2 x3 x4 x5 s => k4 x1 x2 x3 x4 x5 (st.trans s), fun _ _ _ _ _ _ _ _ z => z⟩, fun e => ih (y2 e)⟩
  exact key l hx
/-! ### orders that tell all apart -/
class EncT (α : Type) extends EncO α where
  tri : ∀ a b : α, EncO.lt a b = false → EncO.lt b a = false → a = b
instance : EncT Int where
  tri a b h1 h2 := by
    have h1 := of_decide_eq_false (show decide (a < b) = false from h1)
    have h2 := of_decide_eq_false (show decide (b < a) = false from h2)
    omega
noncomputable instance {α β : Type} [EncT α] [EncT β] : EncT (α × β) where
  tri p q h1 h2 := by
    have n1 : ¬ EncO.lt p q = true := by rw [h1]; decide
    have n2 : ¬ EncO.lt q p = true := by rw [h2]; decide
    rw [lt_pair] at n1 n2
    have e1 : p.1 = q.1 := by
      apply Classical.byContradiction
      intro ne
      apply ne
      refine EncT.tri _ _ ?_ ?_
      · cases h : EncO.lt p.1 q.1 with
        | false => rfl
        | true => exact absurd (.inl ⟨ne, h⟩) n1
      · cases h : EncO.lt q.1 p.1 with
        | false => rfl
        | true => exact absurd (.inl ⟨Ne.symm ne, h⟩) n2
    have e2 : p.2 = q.2 := by
      apply Classical.byContradiction
      intro ne
      apply ne
      refine EncT.tri _ _ ?_ ?_
      · cases h : EncO.lt p.2 q.2 with
        | false => rfl
        | true => exact absurd (.inr ⟨e1, ne, h⟩) n1
      · cases h : EncO.lt q.2 p.2 with
        | false => rfl
        | true => exact absurd (.inr ⟨e1.symm, Ne.symm ne, h⟩) n2
    exact Prod.ext e1 e2
theorem lexL_tri {α : Type} [EncT α] : ∀ l m : List α, lexL l m = false → lexL m l = false → l = m
  | [], [], _, _ => rfl
  | [], _ :: _, h, _ => by simp [lexL] at h
  | _ :: _, [], _, h => by simp [lexL] at h
  | a :: l, b :: m, h1, h2 => by
    classical
    rw [lexL.eq_4] at h1 h2
    by_cases e : a = b
    · subst e
      rw [if_pos rfl] at h1 h2
      rw [lexL_tri l m h1 h2]
    · rw [if_neg e] at h1
      rw [if_neg (Ne.symm e)] at h2
      exact absurd (EncT.tri a b h1 h2) e
noncomputable instance {α : Type} [EncT α] : EncT (List α) where
  tri l m h1 h2 := lexL_tri l m h1 h2
/-- sorted by a key that tells all apart: one list alone -/
theorem sorted_uniq {α κ : Type} [EncT κ] {kf : α → κ} (inj : ∀ a b, kf a = kf b → a = b) : ∀ {l m : List α}, l.Perm m → (l.Pairwise fun x y => EncO.lt (kf y) (kf x) = false) → (m.Pairwise fun x y => EncO.lt (kf y) (kf x) = false) → l = m
  | [], m, h, _, _ => by rw [List.nil_perm.mp h]
  | a :: l, [], h, _, _ => by have := h.length_eq; simp at this
  | a :: l, b :: m, h, h1, h2 => by
    rw [List.pairwise_cons] at h1 h2
    have e : a = b := by
      have ha : a ∈ b :: m := h.mem_iff.mp List.mem_cons_self
      have hb : b ∈ a :: l := h.mem_iff.mpr List.mem_cons_self
      rcases List.mem_cons.mp ha with e | ha
      · exact e
      · rcases List.mem_cons.mp hb with e | hb
        · exact e.symm
        · exact inj a b (EncT.tri _ _ (h2.1 a ha) (h1.1 b hb))
    subst e
    rw [sorted_uniq inj (List.Perm.cons_inv h) h1.2 h2.2]
end DL
/-! DO1: +, == and in by a method of the text. -/
namespace DL
open PySem PySem.Spec PyProof.Rows L2 Enc
/-- the class C finds the def g under the name m -/
structure OwnM (K : PySem.W.Frag) (C : Addr) (m : Str) (g : Addr) : Prop where
  sf : PySem.W.selfFirst K C = true
  at_ : PySem.W.findIn K (.ref C) m = some (some (.ref g))
  fn : PySem.W.isFn K (.ref g) = true
theorem ep_cmp {X : Cx} {pins : List (Addr × Obj)} {σ : L2.St} {Q : VK} {v : Value} {s : Shared} (h : EP X pins σ Q v s) : PySem.W.CmpBack (EP X pins σ Q) v s := by
  cases v with
  | notImplemented =>
    obtain ⟨x, H, I, r, q⟩ := h
    cases x with
    | int _ => obtain ⟨_, e⟩ := r; cases e
    | str _ => obtain ⟨_, e⟩ := r; cases e
    | byt _ => obtain ⟨_, e⟩ := r; cases e
    | flt _ => obtain ⟨_, e⟩ := r; cases e
    | non => have e : Value.notImplemented = Value.none := r; cases e
    | bl _ => have e : Value.notImplemented = Value.bool _ := r; cases e
    | ref _ => have e : Value.notImplemented = Value.ref _ := r; cases e
    | ty _ => have e : Value.notImplemented = Value.type _ := r; cases e
  | _ => exact h
section
variable {X : Cx} {W : WX} {cs : List Addr} {k : Nat} {sp : DSp} {g : Addr} {a b : Expr} {wa wb : DL.WE} {pos : Pos}
/-- a op b, both of one class, by its method -/
def wOwn2 (cs : List Addr) (sp : DSp) (wa wb : DL.WE) : DL.WE := fun sl M Q E => wa sl M (fun d M1 => wb sl M1 (fun e M2 => ∃ C ks ds ks2 ds2, der M2 d = .ins C ks ds ∧ der M2 e = .ins C ks2 ds2 ∧ C ∈ cs ∧ sp [d, e] M2 Q E) E) E
theorem low_own2 {σ : L2.St} {H : Hp} {Q : VK} (h : low W (wOwn2 cs sp wa wb) σ H Q) : low W wa σ H fun x H1 => low W wb σ H1 fun y H2 => ∃ a b C dx fs dy gs, x = .ref a ∧ y = .ref b ∧ H2 a = some (.ins C dx fs) ∧ H2 b = some (.ins C dy gs) ∧ C ∈ cs ∧ liftV sp [.ref a, .ref b] H2 Q (fun c d H => W c d σ H) := by
  obtain ⟨sl, Hf, M, Qd, Xd, rl, w, k, kx⟩ := h
  refine ⟨sl, Hf, M, _, Xd, rl, w, fun d Hf1 M1 v H1 s1 r1 w1 => ?_, kx⟩
  refine ⟨sl, Hf1, M1, _, Xd, rl.step s1, w1, fun e Hf2 M2 u H2 s2 r2 w2 => ?_, fun c Hf' M' H' s q => kx c Hf' M' H' (s1.trans s) q⟩
  obtain ⟨C, ks, ds, ks2, ds2, hd, he, hC, q⟩ := w2
  have rt1 := RepT.of s2.wd (r1.mono s2.up)
  have rt2 := RepT.of s2.wd r2
  rw [hd] at rt1
  rw [he] at rt2
  obtain ⟨a, dx, fs, rfl, ha, _, _⟩ := rt1.ins s2.wd.le
  obtain ⟨b, dy, gs, rfl, hb, _, _⟩ := rt2.ins s2.wd.le
  exact ⟨a, b, C, dx, fs, dy, gs, rfl, rfl, ha, hb, hC, [d, e], Hf2, M2, Qd, Xd, .cons (r1.mono s2.up) (.cons r2 .nil), s2.wd, q, fun d Hf3 M3 v H3 s3 => k d Hf3 M3 v H3 ((s1.trans s2).trans s3), fun c Hf3 M3 H3 s3 => kx c Hf3 M3 H3 ((s1.trans s2).trans s3)⟩
theorem d_addO (bA : Bare bm X.A) (hr : Room k X.A) (tk : Takes X W) (hc : ∀ C ∈ cs, OwnM X.K C "__add__" g) (F : FD bm X k g sp) (ha : PE X a (low W wa)) (hb : PE X b (low W wb)) : PE X (.BinOp a .Add b pos) (low W (wOwn2 cs sp wa wb)) := by
  refine ⟨fun pins s σ H Q I h => ?_⟩
  refine wpAny_BinOp (binT ha hb I (low_own2 h) fun v u s2 x y H2 I2 rx ry q => ?_)
  obtain ⟨a, b, C, dx, fs, dy, gs, rfl, rfl, h1, h2, hC, q⟩ := q
  obtain rfl : v = Value.ref a := rx
  obtain rfl : u = Value.ref b := ry
  obtain ⟨mA, J, _⟩ := ins_get I2.hok h1
  obtain ⟨mB, J2, _⟩ := ins_get I2.hok h2
  obtain ⟨od, J, _⟩ := J.look
  obtain ⟨od2, J2, _⟩ := J2.look
  obtain ⟨m, hF⟩ := I2.fr
  have c := hc C hC
  refine PySem.W.binop_K hF I2.ok.mod.kin J J2.type c.sf c.at_ c.fn ?_
  exact wpAny_mono (run_G (us := [.ref a, .ref b]) (vs := [.ref a, .ref b]) F bA hr (passAt tk σ) I2 (.cons rfl (.cons rfl .nil)) q) (fun _ _ z => ep_cmp z) fun _ _ z => z
theorem eqO_run (bA : Bare bm X.A) (hr : Room k X.A) (hu : X.A.units + 150 < cLine) (tk : Takes X W) (hc : ∀ C ∈ cs, OwnM X.K C "__eq__" g) (F : FD bm X k g sp) (ha : PE X a (low W wa)) (hb : PE X b (low W wb)) (hm : behindInMarks .Eq b = false) : PE X (.Compare a [.Eq] [b] pos) (low W (wOwn2 cs sp wa wb)) := by
  refine ⟨fun pins s σ H Q I h => ?_⟩
  refine wpAny_Compare1 (binT ha hb I (low_own2 h) fun v u s2 x y H2 I2 rx ry q => ?_) hm
  obtain ⟨a, b, C, dx, fs, dy, gs, rfl, rfl, h1, h2, hC, q⟩ := q
  obtain rfl : v = Value.ref a := rx
  obtain rfl : u = Value.ref b := ry
  obtain ⟨mA, J, _⟩ := ins_get I2.hok h1
  obtain ⟨mB, J2, _⟩ := ins_get I2.hok h2
  obtain ⟨od, J, _⟩ := J.look
  obtain ⟨od2, J2, _⟩ := J2.look
  obtain ⟨m, hF⟩ := I2.fr
  have c := hc C hC
  show wpAny (model X.prog X.w) X.A (richCompare .Eq (.ref a) (.ref b)) (EP X pins σ Q) X.xe s2
  refine PySem.W.cmp_K (op := .Eq) (tb := .ref C) (by omega) hF I2.ok.mod.kin J J2.type (by simp [PySem.W.notFirst]) c.at_ c.fn ?_
  exact wpAny_mono (run_G (us := [.ref a, .ref b]) (vs := [.ref a, .ref b]) F bA hr (passAt tk σ) I2 (.cons rfl (.cons rfl .nil)) q) (fun _ _ z => ep_cmp z) fun _ _ z => z
/-- x in o, o an instance, by its method that tells a bool -/
def wInO (f : Bool → Bool) (cs : List Addr) (sp : DSp) (wa wb : DL.WE) : DL.WE := fun sl M Q E => wa sl M (fun d M1 => wb sl M1 (fun e M2 => ∃ C ks ds, der M2 e = .ins C ks ds ∧ C ∈ cs ∧ sp [e, d] M2 (fun r M3 => ∃ b, r = .bl b ∧ Q (.bl (f b)) M3) E) E) E
theorem low_inO {f : Bool → Bool} {σ : L2.St} {H : Hp} {Q : VK} (h : low W (wInO f cs sp wa wb) σ H Q) : low W wa σ H fun x H1 => low W wb σ H1 fun y H2 => ∃ b C dx fs, y = .ref b ∧ H2 b = some (.ins C dx fs) ∧ C ∈ cs ∧ liftV sp [.ref b, x] H2 (fun r H' => ∃ b, r = .bl b ∧ Q (.bl (f b)) H') (fun c d H => W c d σ H) := by
  obtain ⟨sl, Hf, M, Qd, Xd, rl, w, k, kx⟩ := h
  refine ⟨sl, Hf, M, _, Xd, rl, w, fun d Hf1 M1 v H1 s1 r1 w1 => ?_, kx⟩
  refine ⟨sl, Hf1, M1, _, Xd, rl.step s1, w1, fun e Hf2 M2 u H2 s2 r2 w2 => ?_, fun c Hf' M' H' s q => kx c Hf' M' H' (s1.trans s) q⟩
  obtain ⟨C, ks, ds, he, hC, q⟩ := w2
  have rt2 := RepT.of s2.wd r2
  rw [he] at rt2
  obtain ⟨b, dy, gs, rfl, hb, _, _⟩ := rt2.ins s2.wd.le
  refine ⟨b, C, dy, gs, rfl, hb, hC, [e, d], Hf2, M2, _, Xd, .cons r2 (.cons (r1.mono s2.up) .nil), s2.wd, q, fun d Hf3 M3 v H3 s3 r3 q3 => ?_, fun c Hf3 M3 H3 s3 => kx c Hf3 M3 H3 ((s1.trans s2).trans s3)⟩
  obtain ⟨b, rfl, q3⟩ := q3
  cases r3
  exact ⟨b, rfl, k _ Hf3 M3 _ H3 ((s1.trans s2).trans s3) (.bl _) q3⟩
theorem d_inO (bA : Bare bm X.A) (hr : Room k X.A) (tk : Takes X W) (hc : ∀ C ∈ cs, OwnM X.K C "__contains__" g) (F : FD bm X k g sp) (ha : PE X a (low W wa)) (hb : PE X b (low W wb)) (hm : behindInMarks .In b = false) : PE X (.Compare a [.In] [b] pos) (low W (wInO id cs sp wa wb)) := by
  refine ⟨fun pins s σ H Q I h => ?_⟩
  refine wpAny_Compare1 (binT ha hb I (low_inO h) fun v u s2 x y H2 I2 rx ry q => ?_) hm
  obtain ⟨b, C, dx, fs, rfl, h2, hC, q⟩ := q
  obtain rfl : u = Value.ref b := ry
  obtain ⟨mB, J2, _⟩ := ins_get I2.hok h2
  obtain ⟨od2, J2, _⟩ := J2.look
  obtain ⟨m, hF⟩ := I2.fr
  have c := hc C hC
  refine PySem.W.in_K hF I2.ok.mod.kin J2 c.at_ c.fn ?_
  refine wpAny_mono (run_G (us := [.ref b, v]) (vs := [.ref b, x]) F bA hr (passAt tk σ) I2 (.cons rfl (.cons rx .nil)) q) (fun r s' z => ?_) fun _ _ z => z
  obtain ⟨_, H', I', rr, z, rfl, q⟩ := z
  cases rr
  exact wpAny_truthy_bool ⟨.bl z, H', I', rfl, q⟩
theorem d_notInO (bA : Bare bm X.A) (hr : Room k X.A) (tk : Takes X W) (hc : ∀ C ∈ cs, OwnM X.K C "__contains__" g) (F : FD bm X k g sp) (ha : PE X a (low W wa)) (hb : PE X b (low W wb)) (hm : behindInMarks .NotIn b = false) : PE X (.Compare a [.NotIn] [b] pos) (low W (wInO (!·) cs sp wa wb)) := by
  refine ⟨fun pins s σ H Q I h => ?_⟩
  refine wpAny_Compare1 (binT ha hb I (low_inO h) fun v u s2 x y H2 I2 rx ry q => ?_) hm
  obtain ⟨b, C, dx, fs, rfl, h2, hC, q⟩ := q
  obtain rfl : u = Value.ref b := ry
  obtain ⟨mB, J2, _⟩ := ins_get I2.hok h2
  obtain ⟨od2, J2, _⟩ := J2.look
  obtain ⟨m, hF⟩ := I2.fr
  have c := hc C hC
  refine PySem.W.notIn_K hF I2.ok.mod.kin J2 c.at_ c.fn ?_
  refine wpAny_mono (run_G (us := [.ref b, v]) (vs := [.ref b, x]) F bA hr (passAt tk σ) I2 (.cons rfl (.cons rx .nil)) q) (fun r s' z => ?_) fun _ _ z => z
  obtain ⟨_, H', I', rr, z, rfl, q⟩ := z
  cases rr
  exact wpAny_truthy_bool ⟨.bl (!z), H', I', rfl, q⟩
end
end DL
/-! DO2: C(..) with plain values; in by a method, as a test. -/
namespace DL
open PySem PySem.Spec PyProof.Rows L2 Enc
section
variable {X : Cx} {W : WX} {cs : List Addr} {k : Nat} {sp : DSp} {g : Addr} {a b e : Expr} {es : List Expr} {wa wb wf : DL.WE} {wr : WA} {pos : Pos} {x : Str}
def wMk (mkw : Addr → List Dd → MS → QD → XD → Prop) (cs : List Addr) (wf : DL.WE) (wr : WA) : DL.WE := fun sl M Q E => wf sl M (fun c M1 => ∃ C, c = .raw (.ref C) ∧ C ∈ cs ∧ wr sl M1 (fun ds M2 => mkw C ds M2 Q E) E) E
theorem d_mk {pn : Pos} {mkw : Addr → List Dd → MS → QD → XD → Prop} (bA : Bare bm X.A) (hr : Room (k + 1) X.A) (tk : Takes X W) (hc : ∀ C ∈ cs, Mk X.K C g) (F : FD bm X k g sp) (hw : ∀ C ds M Q E, mkw C ds M Q E → MkD C sp ds M Q E ∨ MkM C sp ds M Q E)
    (hf : PE X (.Name x pn) (low W wf)) (ha : PA X (e :: es) (lowA W wr))
    (he : starEach (e :: es) X.env = (false, eval e X.env) :: starEach es X.env := by rfl) (hpl : (backTo pos (starEach es X.env)).any (·.1) = false := by rfl) : PE X (.Call (.Name x pn) (e :: es) [] pos) (low W (wMk mkw cs wf wr)) := by
  constructor
  rintro pins s σ H Q I ⟨sl, Hf, M, Qd, Xd, rl, w, k, kx⟩
  have L : low W wf σ H fun v H1 => ∃ C ∈ cs, v = .ref C ∧ lowA W wr σ H1 fun vs H2 => ∃ ds Hf2 M2, RepAll Hf2 vs ds ∧ Stp Hf M H Hf2 M2 H2 ∧ mkw C ds M2 Qd Xd := by
    refine ⟨sl, Hf, M, _, Xd, rl, w, fun d Hf1 M1 v H1 s1 r1 w1 => ?_, kx⟩
    obtain ⟨C, rfl, hC, w1⟩ := w1
    cases r1
    exact ⟨C, hC, rfl, sl, Hf1, M1, _, Xd, rl.step s1, w1, fun ds Hf2 M2 vs H2 s2 r2 w2 => ⟨ds, Hf2, M2, r2, s1.trans s2, w2⟩, fun c Hf' M' H' s q => kx c Hf' M' H' (s1.trans s) q⟩
  apply wpAny_Call_Name_kw
  apply thn (hf.run pins s σ H _ I L)
  rintro u s1 ⟨v, H1, I1, rv, C, hC, rfl, q⟩
  obtain rfl : u = Value.ref C := rv
  refine PySem.W.callWith_K (h₀ := X.base) I.ok.mod.kin (hc C hC).kp (thn (ha.run pos pins s1 σ H1 _ I1 q) fun us s2 ⟨vs, H2, I2, r, ds, Hf2, M2, rd, st, q2⟩ => ⟨I2.kIn, ?_⟩) he hpl
  exact run_mk (hc C hC) F bA hr (passAt tk σ) I2 r rd st.wd (hw _ _ _ _ _ q2) (fun d Hf' M' v H' s' => k d Hf' M' v H' (st.trans s')) (fun c Hf' M' H' s' => kx c Hf' M' H' (st.trans s'))
theorem t_notInO (bA : Bare bm X.A) (hr : Room k X.A) (tk : Takes X W) (hc : ∀ C ∈ cs, OwnM X.K C "__contains__" g) (F : FD bm X k g sp) (ha : PE X a (low W wa)) (hb : PE X b (low W wb)) (hm : behindInMarks .NotIn b = false) : PT X (.Compare a [.NotIn] [b] pos) (lowT W (wTest (wInO (!·) cs sp wa wb))) := by
  refine PT.imp ?_ fun σ H Q z => low_test σ H Q z
  refine ⟨fun pins s σ H Q I h => ?_⟩
  refine wpAny_isTrue_Compare1 (thn (ha.run pins s σ H _ I (low_inO h)) fun v s1 ⟨x, H1, I1, r1, q1⟩ => thn (hb.run pins s1 σ H1 _ I1 q1) fun u s2 ⟨y, H2, I2, ry, q2⟩ => ?_) hm
  obtain ⟨b, C, dx, fs, rfl, h2, hC, q⟩ := q2
  obtain rfl : u = Value.ref b := ry
  obtain ⟨mB, J2, _⟩ := ins_get I2.hok h2
  obtain ⟨od2, J2, _⟩ := J2.look
  obtain ⟨m, hF⟩ := I2.fr
  have c := hc C hC
  refine PySem.W.notIn_K hF I2.ok.mod.kin J2 c.at_ c.fn ?_
  refine wpAny_mono (run_G (us := [.ref b, v]) (vs := [.ref b, x]) F bA hr (passAt tk σ) I2 (.cons rfl (.cons r1 .nil)) q) (fun r s' z => ?_) fun _ _ z => z
  obtain ⟨_, H', I', rr, z, rfl, kz, ek, q⟩ := z
  cases rr
  cases ek
  exact wpAny_truthy_bool (wpAny_truthy_bool ⟨H', I', q⟩)
end
end DL
/-! DO3: lists put together, the rules that decide. -/
namespace DL
open PySem PySem.Spec PyProof.Rows L2 Enc
theorem gEqB_lst {α : Type} [Enc α] {f : Bool → Bool} (hd : deep α ≤ 62) (l m : List α) [Decidable (l = m)] : gEqB f (.lst (l.map enc)) (.lst (m.map enc)) = some (.bl (f (decide (l = m)))) := by
  unfold gEqB
  have e : ∀ l : List α, py (.lst (l.map enc)) = some (.list (l.map pe)) := fun l => by simp [py, pyAll_enc]
  have h := depthAll_enc l
  rw [e, e]
  show (if (PyData.depth (.list (l.map pe))) ≤ 64 then some (Dd.bl (f (PyData.eqv (.list (l.map pe)) (.list (m.map pe))))) else none) = _
  rw [if_pos (by simp only [PyData.depth]; omega)]
  have e2 : PyData.eqv (.list (l.map pe)) (.list (m.map pe)) = decide (l = m) := by
    rw [Bool.eq_iff_iff, decide_eq_true_eq]
    simp only [PyData.eqv]
    exact eqvAll_enc l m
  rw [e2]
theorem gEqB_bl {f : Bool → Bool} (a b : Bool) : gEqB f (.bl a) (.bl b) = some (.bl (f (a == b))) := by
  cases a <;> cases b <;> rfl
theorem nodup_len {α : Type} [DecidableEq α] : ∀ {a b : List α}, a.Nodup → (∀ x ∈ a, x ∈ b) → a.length ≤ b.length
  | [], _, _, _ => Nat.zero_le _
  | x :: a, b, nd, h => by
    rw [List.nodup_cons] at nd
    have hx := h x List.mem_cons_self
    have ih := nodup_len (a := a) (b := b.erase x) nd.2 fun y hy => by
      refine (List.mem_erase_of_ne ?_).mpr (h y (List.mem_cons_of_mem _ hy))
      rintro rfl
      exact nd.1 hy
    rw [List.length_erase_of_mem hx] at ih
    have : 0 < b.length := List.length_pos_of_mem hx
    rw [List.length_cons]
    omega
def joinR (rs os : List Rule) : List Rule := rs ++ os.filter fun r => !decide (r ∈ rs)
theorem mem_join {rs os : List Rule} {x : Rule} : x ∈ joinR rs os ↔ x ∈ rs ∨ x ∈ os := by
  unfold joinR
  rw [List.mem_append, List.mem_filter]
  simp only [Bool.not_eq_true', decide_eq_false_iff_not]
  by_cases h : x ∈ rs
  · simp [h]
  · simp [h]
theorem join_nodup {rs os : List Rule} (h1 : rs.Nodup) (h2 : os.Nodup) : (joinR rs os).Nodup := by
  unfold joinR
  rw [List.nodup_append]
  refine ⟨h1, h2.filter _, fun a ha b hb e => ?_⟩
  subst e
  have := (List.mem_filter.mp hb).2
  simp [ha] at this
theorem join_len (rs os : List Rule) : (joinR rs os).length ≤ rs.length + os.length := by
  unfold joinR
  rw [List.length_append]
  have := List.length_filter_le (fun r => !decide (r ∈ rs)) os
  omega
theorem join_perm {rs os : List Rule} (h1 : rs.Nodup) (h2 : os.Nodup) : (joinR rs os).Perm (joinR os rs) :=
  (List.perm_ext_iff_of_nodup (join_nodup h1 h2) (join_nodup h2 h1)).mpr fun x => by rw [mem_join, mem_join, or_comm]
theorem mem_decs {rs : List Rule} {c : Case} {r : Rule} : r ∈ decs rs c ↔ r ∈ rs ∧ mat c r = true ∧ ∀ o ∈ rs, mat c o = true → strW r.1 o.1 = false := by
  unfold decs
  rw [List.mem_filter, List.mem_filter, Bool.not_eq_true', List.any_eq_false, and_assoc]
  simp only [List.mem_filter, and_imp, Bool.not_eq_true]
theorem decs_join {rs os : List Rule} {c : Case} {r : Rule} (h : r ∈ decs (joinR rs os) c) : r ∈ decs rs c ∨ r ∈ decs os c := by
  rw [mem_decs] at h
  obtain ⟨h1, h2, h3⟩ := h
  rcases mem_join.mp h1 with h | h
  · exact .inl (mem_decs.mpr ⟨h, h2, fun o ho => h3 o (mem_join.mpr (.inl ho))⟩)
  · exact .inr (mem_decs.mpr ⟨h, h2, fun o ho => h3 o (mem_join.mpr (.inr ho))⟩)
theorem decs_perm {rs os : List Rule} (c : Case) (h1 : rs.Nodup) (h2 : os.Nodup) (h : rs.Perm os) : (decs rs c).Perm (decs os c) :=
  (List.perm_ext_iff_of_nodup (h1.sublist (decs_sub rs c)) (h2.sublist (decs_sub os c))).mpr fun x => by
    rw [mem_decs, mem_decs, h.mem_iff]
    constructor
    · exact fun ⟨a, b, d⟩ => ⟨a, b, fun o ho => d o (h.mem_iff.mpr ho)⟩
    · exact fun ⟨a, b, d⟩ => ⟨a, b, fun o ho => d o (h.mem_iff.mp ho)⟩
theorem up_nodup {c : Case} (h : Up c) : c.Nodup := h.imp fun {a b} h e => by rw [e] at h; omega
theorem decs_self {rs : List Rule} {r : Rule} (up : ∀ o ∈ rs, Up o.1) (h : r ∈ rs) : r ∈ decs rs r.1 := by
  refine mem_decs.mpr ⟨h, inC_iff.mpr fun x hx => hx, fun o ho hm => ?_⟩
  have := nodup_len (up_nodup (up o ho)) (inC_iff.mp hm)
  unfold strW
  rw [decide_eq_false (by omega), Bool.false_and]
def known (rs : List Rule) : List (Int × Int) := rs.flatMap (·.1)
def fewC (rs : List Rule) (c : Case) : Case := c.filter fun x => decide (x ∈ known rs)
theorem mat_few {rs : List Rule} {c : Case} {r : Rule} (h : r ∈ rs) : mat (fewC rs c) r = mat c r := by
  unfold mat
  rw [Bool.eq_iff_iff, List.all_eq_true, List.all_eq_true]
  simp only [decide_eq_true_eq]
  constructor
  · exact fun z x hx => (List.mem_filter.mp (z x hx)).1
  · exact fun z x hx => List.mem_filter.mpr ⟨z x hx, decide_eq_true (List.mem_flatMap.mpr ⟨r, h, hx⟩)⟩
theorem decs_few (rs : List Rule) (c : Case) : decs rs (fewC rs c) = decs rs c := by
  have e : rs.filter (mat (fewC rs c)) = rs.filter (mat c) := List.filter_congr fun r hr => mat_few hr
  unfold decs
  rw [e]
theorem asc_sort {ms out : List Int} (up : ms.Pairwise (· < ·)) (pm : out.Perm ms) (asc : Asc out) : out = ms := by
  refine sorted_uniq (kf := fun i : Int => i) (fun _ _ h => h) pm asc (up.imp fun {a b} h => ?_)
  cases z : EncO.lt b a with
  | false => rfl
  | true => rw [DL.lt_int] at z; omega
theorem rules_sort {a b o1 o2 : List Rule} (h : a.Perm b) (p1 : o1.Perm a) (p2 : o2.Perm b) (s1 : Asc o1) (s2 : Asc o2) : o1 = o2 :=
  sorted_uniq (kf := fun r : Rule => r) (fun _ _ h => h) ((p1.trans h).trans p2.symm) s1 s2
end DL
/-! DO4: != by an own ==. -/
namespace DL
open PySem PySem.Spec PyProof.Rows L2 Enc PySem.Calls
theorem run_G1 {X : Cx} {k : Nat} {f : Addr} {sp : Sp} {pins : List (Addr × Obj)} {σ : L2.St} {H : Hp} {s : Shared} {Q : VK} {E : XK} {us : List Value} {vs : List V} (F : FR bm X.prog X.w X.K X.mg X.base k f sp) (bA : Bare bm X.A) (hr : Room (k + 1) X.A)
    (hx : PassesAt (L2.CX X.prog X.w) X σ E) (I : Inv X pins σ H s) (r : Vals vs us) (h : sp vs H Q E) : wpAny (model X.prog X.w) X.A.in1 (call (.ref f) us) (EP X pins σ Q) X.xe s := by
  apply wpAny_call
  have room : Room k X.A.in1 := ⟨hr.hd, by have := hr.dp; show X.A.depth + 3 * k + 5 < _; omega, by have := hr.un; show X.A.units + 1 + 16 * k + 200 < _; omega⟩
  apply codeAny_mono (F X.A.in1 X.stack s H us vs Q E bA room I.env0.in1 r h)
  intro r s' hq
  have z := back I hx hq
  cases r with
  | error e => exact z
  | ok fl => cases fl <;> exact z
section
variable {prog : Program} {w : World} {A : Around} {E : Value → Shared → Prop} {s : Shared} {K : PySem.W.Frag} {x C f : Addr} {ox : Obj} {od : Option Obj} {y : Value}
theorem ifBound_B {name : Str} {id : String} {args : List Value} {Q : Option Value → Shared → Prop} (X : K.In s.heap) (J : PySem.W.InstAt s.heap x ox C od) (hs : PySem.W.findIn K (.ref C) name = some (some (.builtin id)))
    (hb : ∀ self, bindSpecial (.builtin id) self = pure (.builtin id, [self])) (h : wpAny (model prog w) A (call (.builtin id) (.ref x :: args)) (fun v => Q (some v)) E s) : wpAny (model prog w) A (callSpecialIfBound? (.ref x) name args) Q E s := by
  simp only [callSpecialIfBound?, bindSpecialIfBound?]
  apply wpAny_holding
  apply wpAny_bind
  apply wpAny_bind
  apply wpAny_bind
  apply J.type.here
  apply (PySem.W.looks_findIn X hs).here
  apply wpAny_bind
  apply wpAny_askSetting
  apply wpAny_ite
  have fin : wpAny (model prog w) A (call (.builtin id) ([.ref x] ++ args) >>= fun v => pure (some v)) Q E s := wpAny_bind (wpAny_mono h (fun _ _ z => wpAny_pure z) fun _ _ z => z)
  rw [hb]
  split
  · exact wpAny_bind (wpAny_pure (wpAny_pure fin))
  · exact wpAny_tryCatch (wpAny_bind (wpAny_pure (wpAny_pure fin)))
theorem ne_own {Q : Value → Shared → Prop} (hu : A.units + 2 < cLine) (X : K.In s.heap) (J : PySem.W.InstAt s.heap x ox C od) (hy : PySem.W.Looks (model prog w) s.heap (typeOf y) (.ref C)) (hm : PySem.W.mroIn K C (.type "object") = some true)
    (hn : PySem.W.findIn K (.ref C) "__ne__" = some (some (.builtin "object.__ne__"))) (he : PySem.W.findIn K (.ref C) "__eq__" = some (some (.ref f))) (hf : PySem.W.isFn K (.ref f) = true)
    (h : wpAny (model prog w) A.in1 (call (.ref f) [.ref x, y]) (fun v s' => ∃ b, v = .bool b ∧ Q (.bool (!b)) s') E s) : wpAny (model prog w) A (richCompare .NotEq (.ref x) y) Q E s := by
  have body : wpAny (model prog w) A (call (.builtin "object.__ne__") [.ref x, y]) (fun v s' => ∃ b, v = .bool b ∧ Q (.bool b) s') E s := by
    apply wpAny_call
    apply codeAny_call_builtin F.cmp_object.ne.plain F.cmpEntry_ne
    apply PySem.W.check_slot F.cmpKind_ne F.cmpSplit_ne (J.type.andThen (PySem.W.looks_mroIn X hm)) (F.cmpArgs_ne _ _)
    unfold Builtin.«object.__ne__»
    refine wpAny_bind (m := slotArgs "__ne__" 1 _) (wpAny_pure ?_)
    refine wpAny_bind (m := cRoomFor _ _) (wpAny_cRoomFor (by show A.units + 1 < _; omega) ?_)
    refine wpAny_bind (m := callSpecialIfBound? (.ref x) (Str.ofString "__eq__") _) (PySem.W.ifBound_K X J he hf (wpAny_mono h (fun r s' hq => ?_) fun _ _ z => z))
    obtain ⟨b, rfl, q⟩ := hq
    refine wpAny_bind (wpAny_truthy_bool ?_)
    exact wpAny_pure ⟨_, rfl, q⟩
  unfold richCompare
  simp only [oneThing_ref]
  apply wpAny_holding
  apply wpAny_bind
  apply wpAny_cRoomFor (by omega)
  apply wpAny_bind
  apply J.type.here
  apply wpAny_bind
  apply hy.here
  rw [show (Value.ref C != Value.ref C) = false from by simp]
  simp only [Bool.false_eq_true, if_false]
  apply wpAny_bind
  apply wpAny_pure
  simp only [Bool.false_eq_true, if_false]
  apply wpAny_bind
  simp only [tryCompare]
  apply wpAny_bind
  refine ifBound_B X J hn F.cmp_object.ne.bind (wpAny_mono body (fun v s' z => ?_) fun _ _ z => z)
  obtain ⟨b, rfl, q⟩ := z
  exact wpAny_pure (wpAny_pure q)
end
end DL
namespace DL
open PySem PySem.Spec PyProof.Rows L2 Enc PySem.Calls
structure OwnE (K : PySem.W.Frag) (C : Addr) (g : Addr) : Prop where
  mro : PySem.W.mroIn K C (.type "object") = some true
  ne : PySem.W.findIn K (.ref C) "__ne__" = some (some (.builtin "object.__ne__"))
  eq : PySem.W.findIn K (.ref C) "__eq__" = some (some (.ref g))
  fn : PySem.W.isFn K (.ref g) = true
section
variable {X : Cx} {W : WX} {cs : List Addr} {k : Nat} {sp : DSp} {g : Addr} {a b : Expr} {wa wb : DL.WE} {pos : Pos}
def spNe (sp : DSp) : DSp := fun ds M Q E => sp ds M (fun r M' => ∃ b, r = .bl b ∧ Q (.bl (!b)) M') E
theorem lift_ne {vs : List V} {H : Hp} {Q : VK} {E : XK} (h : liftV (spNe sp) vs H Q E) : liftV sp vs H (fun r H' => ∃ b, r = .bl b ∧ Q (.bl (!b)) H') E := by
  obtain ⟨ds, Hf, M, Qd, Xd, ra, wd, q, k1, k2⟩ := h
  refine ⟨ds, Hf, M, _, Xd, ra, wd, q, fun d Hf' M' v H' st rv z => ?_, k2⟩
  obtain ⟨b, rfl, z⟩ := z
  cases rv
  exact ⟨b, rfl, k1 _ Hf' M' _ H' st (.bl _) z⟩
theorem ne_step {pins : List (Addr × Obj)} {σ : L2.St} {H2 : Hp} {s2 : Shared} {v u : Value} {x y : V} {Q : VK} (bA : Bare bm X.A) (hr : Room (k + 1) X.A) (hu : X.A.units + 150 < cLine) (tk : Takes X W) (hc : ∀ C ∈ cs, OwnE X.K C g) (F : FD bm X k g sp) (I2 : Inv X pins σ H2 s2) (rx : RelV x v) (ry : RelV y u)
    (q : ∃ a b C dx fs dy gs, x = .ref a ∧ y = .ref b ∧ H2 a = some (.ins C dx fs) ∧ H2 b = some (.ins C dy gs) ∧ C ∈ cs ∧ liftV (spNe sp) [.ref a, .ref b] H2 Q (fun c d H => W c d σ H)) : wpAny (model X.prog X.w) X.A (compareOp .NotEq v u) (EP X pins σ Q) X.xe s2 := by
  obtain ⟨a, b, C, dx, fs, dy, gs, rfl, rfl, h1, h2, hC, q⟩ := q
  obtain rfl : v = Value.ref a := rx
  obtain rfl : u = Value.ref b := ry
  obtain ⟨mA, J, _⟩ := ins_get I2.hok h1
  obtain ⟨mB, J2, _⟩ := ins_get I2.hok h2
  obtain ⟨od, J, _⟩ := J.look
  obtain ⟨od2, J2, _⟩ := J2.look
  have c := hc C hC
  show wpAny (model X.prog X.w) X.A (richCompare .NotEq (.ref a) (.ref b)) (EP X pins σ Q) X.xe s2
  refine ne_own (by omega) I2.kIn J J2.type c.mro c.ne c.eq c.fn ?_
  refine wpAny_mono (run_G1 (us := [.ref a, .ref b]) (vs := [.ref a, .ref b]) F bA hr (passAt tk σ) I2 (.cons rfl (.cons rfl .nil)) (lift_ne q)) (fun r s' z => ?_) fun _ _ z => z
  obtain ⟨_, H', I', rr, b, rfl, z⟩ := z
  cases rr
  exact ⟨b, rfl, .bl (!b), H', I', rfl, z⟩
theorem d_neO (bA : Bare bm X.A) (hr : Room (k + 1) X.A) (hu : X.A.units + 150 < cLine) (tk : Takes X W) (hc : ∀ C ∈ cs, OwnE X.K C g) (F : FD bm X k g sp) (ha : PE X a (low W wa)) (hb : PE X b (low W wb)) (hm : behindInMarks .NotEq b = false) : PE X (.Compare a [.NotEq] [b] pos) (low W (wOwn2 cs (spNe sp) wa wb)) :=
  ⟨fun pins s σ H Q I h => wpAny_Compare1 (binT ha hb I (low_own2 h) fun v u s2 x y H2 I2 rx ry q => ne_step bA hr hu tk hc F I2 rx ry q) hm⟩
theorem t_neO (bA : Bare bm X.A) (hr : Room (k + 1) X.A) (hu : X.A.units + 150 < cLine) (tk : Takes X W) (hc : ∀ C ∈ cs, OwnE X.K C g) (F : FD bm X k g sp) (ha : PE X a (low W wa)) (hb : PE X b (low W wb)) (hm : behindInMarks .NotEq b = false) : PT X (.Compare a [.NotEq] [b] pos) (lowT W (wTest (wOwn2 cs (spNe sp) wa wb))) := by
  refine PT.imp ?_ fun σ H Q z => low_test σ H Q z
  refine ⟨fun pins s σ H Q I h => ?_⟩
  refine wpAny_isTrue_Compare1 (thn (ha.run pins s σ H _ I (low_own2 h)) fun v s1 ⟨x, H1, I1, r1, q1⟩ => thn (hb.run pins s1 σ H1 _ I1 q1) fun u s2 ⟨y, H2, I2, ry, q2⟩ => thn (ne_step bA hr hu tk hc F I2 r1 ry q2) fun c s3 ⟨z, H3, I3, r3, kk, e, q3⟩ => ?_) hm
  subst e
  cases r3
  exact wpAny_truthy_bool ⟨H3, I3, q3⟩
end
end DL
/-! DO5: list(range(n)). -/
namespace DL
open PySem PySem.Spec PyProof.Rows L2 Enc PySem.Calls
theorem rep_rng {Hf : Hp} {i : Int} : ∀ l : List Nat, RepAll Hf (l.map fun k => V.int (i + (k : Nat))) (l.map fun k => Dd.int (i + (k : Nat)))
  | [] => .nil
  | _ :: l => .cons (.int _) (rep_rng l)
section
variable {X : Cx} {W : WX} {a : Expr} {wa : DL.WE} {pos p1 p2 pos2 : Pos}
def wListRg (wa : DL.WE) : DL.WE := fun sl M Q E => wa sl M (fun d M1 => ∃ n : Int, d = .int n ∧ 0 ≤ n ∧ n ≤ 1000000 ∧ Q (.lst (rng 0 n.toNat)) M1) E
theorem d_listRg (hc : X.calm = true) (hg : Gl X "list") (hm : X.mg "list" = none) (hg2 : Gl X "range") (hm2 : X.mg "range" = none) (ha : PE X a (low W wa)) (na : starEach [.Call (.Name "range" p2) [a] [] pos2] X.env = (false, eval (.Call (.Name "range" p2) [a] [] pos2) X.env) :: starEach [] X.env := by rfl)
    (nb : starEach [a] X.env = (false, eval a X.env) :: starEach [] X.env := by rfl) : PE X (.Call (.Name "list" p1) [.Call (.Name "range" p2) [a] [] pos2] [] pos) (low W (wListRg wa)) := by
  refine PE.imp (pe_listRg hc hg hm (prg_1 hg2 hm2 ha nb) na) fun σ H Q ⟨sl, Hf, M, Qd, Xd, rl, w, k, kx⟩ => ⟨sl, Hf, M, _, Xd, rl, w, fun d Hf1 M1 v H1 s1 r1 ⟨n, ed, h0, h1, q⟩ => ?_, kx⟩
  subst ed
  cases r1
  refine ⟨n, rfl, RgOk.of_le (by decide) (by omega) (by decide) h0, fun b hb => ?_⟩
  have g := Grow.one (o := .lst (rgV 0 n)) s1.wd.le hb
  refine k _ _ M1 _ _ (s1.trans (Stp.grow s1.wd g)) (.lst upd_same ?_) q
  unfold rgV rng
  rw [Int.sub_zero]
  exact rep_rng _
end
theorem str_nil (a : Str) : Str.empty ++ a = a := by
  obtain ⟨a⟩ := a
  show (Str.mk (#[] ++ a)) = _
  simp
theorem str_assoc (a b c : Str) : (a ++ b) ++ c = a ++ (b ++ c) := by
  obtain ⟨a⟩ := a
  obtain ⟨b⟩ := b
  obtain ⟨c⟩ := c
  show (Str.mk ((a ++ b) ++ c)) = Str.mk (a ++ (b ++ c))
  rw [Array.append_assoc]
end DL
/-! DO6: other names: plain. -/
namespace DL
open PySem PySem.Spec PyProof.Rows L2 Enc
structure One (f : Int → Int) (n : Int) : Prop where
  inj : ∀ a b, 0 ≤ a → a < n → 0 ≤ b → b < n → f a = f b → a = b
  rg : ∀ a, 0 ≤ a → a < n → 0 ≤ f a ∧ f a < n
theorem okC_iff {x : Int × Int} : okC x = true ↔ (0 ≤ x.1 ∧ x.1 < 5) ∧ 0 ≤ x.2 ∧ x.2 < 10 := by
  unfold okC
  rw [Bool.and_eq_true, betw_iff, betw_iff]
  omega
theorem okCase_iff {c : Case} : okCase c = true ↔ (∀ x ∈ c, okC x = true) ∧ Up c := by
  unfold okCase
  rw [Bool.and_eq_true, List.all_eq_true, upC_iff]
def sx (f g : Int → Int) (x : Int × Int) : Int × Int := (f x.1, g x.2)
def sendC (f g : Int → Int) (c : Case) : Case := tog (c.map (sx f g)) []
def sendR (f g h : Int → Int) (r : Rule) : Rule := (sendC f g r.1, h r.2)
theorem mem_send {f g : Int → Int} {c : Case} {y : Int × Int} : y ∈ sendC f g c ↔ ∃ x ∈ c, sx f g x = y := by
  unfold sendC
  rw [mem_tog, List.mem_map]
  simp
section
variable {f g h : Int → Int} (F : One f 5) (G : One g 10) (Hh : One h 100)
include F G
theorem sx_inj {x y : Int × Int} (hx : okC x = true) (hy : okC y = true) (e : sx f g x = sx f g y) : x = y := by
  rw [okC_iff] at hx hy
  have e1 := congrArg Prod.fst e
  have e2 := congrArg Prod.snd e
  exact Prod.ext (F.inj _ _ hx.1.1 hx.1.2 hy.1.1 hy.1.2 e1) (G.inj _ _ hx.2.1 hx.2.2 hy.2.1 hy.2.2 e2)
theorem sx_ok {x : Int × Int} (hx : okC x = true) : okC (sx f g x) = true := by
  rw [okC_iff] at *
  exact ⟨F.rg _ hx.1.1 hx.1.2, G.rg _ hx.2.1 hx.2.2⟩
theorem send_ok {c : Case} (hc : okCase c = true) : okCase (sendC f g c) = true := by
  obtain ⟨h1, up⟩ := okCase_iff.mp hc
  refine okCase_iff.mpr ⟨fun y hy => ?_, ?_⟩
  · obtain ⟨x, hx, rfl⟩ := mem_send.mp hy
    exact sx_ok F G (h1 x hx)
  · refine List.Pairwise.imp_of_mem (fun {a b} ha hb z => ?_) (tog_asc (c.map (sx f g)) [])
    obtain ⟨x, hx, rfl⟩ := mem_send.mp ha
    obtain ⟨y, hy, rfl⟩ := mem_send.mp hb
    rcases z with z | ⟨z, z2⟩
    · exact z
    · have hx2 := okC_iff.mp (h1 x hx)
      have hy2 := okC_iff.mp (h1 y hy)
      have e := up_one up hx hy (F.inj _ _ hx2.1.1 hx2.1.2 hy2.1.1 hy2.1.2 z)
      subst e
      exact absurd z2 (by omega)
theorem send_perm {c : Case} (hc : okCase c = true) : (sendC f g c).Perm (c.map (sx f g)) := by
  obtain ⟨h1, up⟩ := okCase_iff.mp hc
  refine (List.perm_ext_iff_of_nodup (up_nodup (okCase_iff.mp (send_ok F G hc)).2) ?_).mpr fun y => by rw [mem_send, List.mem_map]
  refine List.pairwise_map.mpr (List.Pairwise.imp_of_mem (fun {a b} ha hb z e => ?_) (up_nodup up))
  exact z (sx_inj F G (h1 a ha) (h1 b hb) e)
theorem send_len {c : Case} (hc : okCase c = true) : (sendC f g c).length = c.length := by
  rw [(send_perm F G hc).length_eq, List.length_map]
theorem send_in {a b : Case} (ha : okCase a = true) (hb : okCase b = true) : inC (sendC f g a) (sendC f g b) = inC a b := by
  obtain ⟨a1, _⟩ := okCase_iff.mp ha
  obtain ⟨b1, _⟩ := okCase_iff.mp hb
  rw [Bool.eq_iff_iff, inC_iff, inC_iff]
  constructor
  · intro z x hx
    obtain ⟨y, hy, e⟩ := mem_send.mp (z _ (mem_send.mpr ⟨x, hx, rfl⟩))
    rw [← sx_inj F G (b1 y hy) (a1 x hx) e]
    exact hy
  · intro z y hy
    obtain ⟨x, hx, rfl⟩ := mem_send.mp hy
    exact mem_send.mpr ⟨x, z x hx, rfl⟩
theorem send_str {a b : Case} (ha : okCase a = true) (hb : okCase b = true) : strW (sendC f g a) (sendC f g b) = strW a b := by
  unfold strW
  rw [send_len F G ha, send_len F G hb, send_in F G ha hb]
theorem send_meet {a b : Case} (ha : okCase a = true) (hb : okCase b = true) : meetC (sendC f g a) (sendC f g b) = meetC a b := by
  obtain ⟨a1, ua⟩ := okCase_iff.mp ha
  obtain ⟨b1, _⟩ := okCase_iff.mp hb
  rw [Bool.eq_iff_iff, meet_iff (okCase_iff.mp (send_ok F G ha)).2, meet_iff ua]
  constructor
  · intro z x hx y hy e
    have hx2 := okC_iff.mp (b1 x hx)
    have hy2 := okC_iff.mp (a1 y hy)
    have := z _ (mem_send.mpr ⟨x, hx, rfl⟩) _ (mem_send.mpr ⟨y, hy, rfl⟩) (by show f y.1 = f x.1; rw [e])
    exact G.inj _ _ hy2.2.1 hy2.2.2 hx2.2.1 hx2.2.2 this
  · intro z x' hx' y' hy' e
    obtain ⟨x, hx, rfl⟩ := mem_send.mp hx'
    obtain ⟨y, hy, rfl⟩ := mem_send.mp hy'
    have hx2 := okC_iff.mp (b1 x hx)
    have hy2 := okC_iff.mp (a1 y hy)
    have e1 := F.inj _ _ hy2.1.1 hy2.1.2 hx2.1.1 hx2.1.2 e
    show g y.2 = g x.2
    rw [z x hx y hy e1]
theorem send_tog {z a b : Case} (hz : okCase z = true) (ha : okCase a = true) (hb : okCase b = true) : inC (sendC f g z) (tog (sendC f g a) (sendC f g b)) = inC z (tog a b) := by
  obtain ⟨z1, _⟩ := okCase_iff.mp hz
  obtain ⟨a1, _⟩ := okCase_iff.mp ha
  obtain ⟨b1, _⟩ := okCase_iff.mp hb
  rw [Bool.eq_iff_iff, inC_iff, inC_iff]
  constructor
  · intro q x hx
    have := q _ (mem_send.mpr ⟨x, hx, rfl⟩)
    rw [mem_tog, mem_send, mem_send] at this
    rw [mem_tog]
    rcases this with ⟨y, hy, e⟩ | ⟨y, hy, e⟩
    · rw [← sx_inj F G (a1 y hy) (z1 x hx) e]; exact .inl hy
    · rw [← sx_inj F G (b1 y hy) (z1 x hx) e]; exact .inr hy
  · intro q y hy
    obtain ⟨x, hx, rfl⟩ := mem_send.mp hy
    rw [mem_tog, mem_send, mem_send]
    rcases mem_tog.mp (q x hx) with z | z
    · exact .inl ⟨x, z, rfl⟩
    · exact .inr ⟨x, z, rfl⟩
theorem sendC_inj {a b : Case} (ha : okCase a = true) (hb : okCase b = true) (e : sendC f g a = sendC f g b) : a = b := by
  have h1 : inC a b = true := by rw [← send_in F G ha hb, e]; exact inC_iff.mpr fun _ h => h
  have h2 : inC b a = true := by rw [← send_in F G hb ha, e]; exact inC_iff.mpr fun _ h => h
  refine ascP_uniq ((okCase_iff.mp ha).2.imp fun z => .inl z) ((okCase_iff.mp hb).2.imp fun z => .inl z) fun x => ⟨inC_iff.mp h1 x, inC_iff.mp h2 x⟩
end
theorem rule_ok {r : Rule} : okRule r = true ↔ okCase r.1 = true ∧ 0 ≤ r.2 ∧ r.2 < 100 := by
  unfold okRule
  rw [Bool.and_eq_true, betw_iff]
  exact and_congr_right fun _ => ⟨fun z => by omega, fun z => by omega⟩
section
variable {f g h : Int → Int} (F : One f 5) (G : One g 10) (Hh : One h 100)
include F G Hh
theorem sendR_ok {r : Rule} (hr : okRule r = true) : okRule (sendR f g h r) = true := by
  rw [rule_ok] at *
  exact ⟨send_ok F G hr.1, Hh.rg _ hr.2.1 hr.2.2⟩
theorem sendR_inj {r s : Rule} (hr : okRule r = true) (hs : okRule s = true) (e : sendR f g h r = sendR f g h s) : r = s := by
  rw [rule_ok] at hr hs
  exact Prod.ext (sendC_inj F G hr.1 hs.1 (congrArg Prod.fst e)) (Hh.inj _ _ hr.2.1 hr.2.2 hs.2.1 hs.2.2 (congrArg Prod.snd e))
theorem send_nodup {rs : List Rule} (ok : ∀ r ∈ rs, okRule r = true) (nd : rs.Nodup) : (rs.map (sendR f g h)).Nodup :=
  List.pairwise_map.mpr (List.Pairwise.imp_of_mem (fun {a b} ha hb z e => z (sendR_inj F G Hh (ok a ha) (ok b hb) e)) nd)
theorem opp_send {r s : Rule} (hr : okRule r = true) (hs : okRule s = true) : oppC (sendR f g h r) (sendR f g h s) = oppC r s := by
  rw [rule_ok] at hr hs
  unfold oppC
  have e : decide ((sendR f g h r).2 ≠ (sendR f g h s).2) = decide (r.2 ≠ s.2) := by
    rw [Bool.eq_iff_iff, decide_eq_true_eq, decide_eq_true_eq]
    exact ⟨fun z q => z (congrArg h q), fun z q => z (Hh.inj _ _ hr.2.1 hr.2.2 hs.2.1 hs.2.2 q)⟩
  rw [e]
  show (_ && (meetC (sendC f g r.1) (sendC f g s.1) && (!strW (sendC f g r.1) (sendC f g s.1) && !strW (sendC f g s.1) (sendC f g r.1)))) = _
  rw [send_meet F G hr.1 hs.1, send_str F G hr.1 hs.1, send_str F G hs.1 hr.1]
theorem set_send {z r s : Rule} (hz : okRule z = true) (hr : okRule r = true) (hs : okRule s = true) : setC (sendR f g h z) (sendR f g h r) (sendR f g h s) = setC z r s := by
  rw [rule_ok] at hz hr hs
  unfold setC
  show (inC (sendC f g z.1) (tog (sendC f g r.1) (sendC f g s.1)) && (strW (sendC f g r.1) (sendC f g z.1) || strW (sendC f g s.1) (sendC f g z.1))) = _
  rw [send_tog F G hz.1 hr.1 hs.1, send_str F G hr.1 hz.1, send_str F G hs.1 hz.1]
theorem decs_send {rs : List Rule} {c : Case} (ok : ∀ r ∈ rs, okRule r = true) (hc : okCase c = true) : decs (rs.map (sendR f g h)) (sendC f g c) = (decs rs c).map (sendR f g h) := by
  have e1 : (rs.map (sendR f g h)).filter (mat (sendC f g c)) = (rs.filter (mat c)).map (sendR f g h) := by
    rw [List.filter_map]
    congr 1
    exact List.filter_congr fun r hr => send_in F G (rule_ok.mp (ok r hr)).1 hc
  unfold decs
  rw [e1, List.filter_map]
  congr 1
  refine List.filter_congr fun r hr => ?_
  have hr' := ok r (List.mem_filter.mp hr).1
  show (!((rs.filter (mat c)).map (sendR f g h)).any fun o => strW (sendC f g r.1) o.1) = _
  rw [List.any_map]
  congr 1
  rw [Bool.eq_iff_iff, List.any_eq_true, List.any_eq_true]
  constructor
  · rintro ⟨o, ho, z⟩
    exact ⟨o, ho, (send_str F G (rule_ok.mp hr').1 (rule_ok.mp (ok o (List.mem_filter.mp ho).1)).1).symm.trans z⟩
  · rintro ⟨o, ho, z⟩
    exact ⟨o, ho, (send_str F G (rule_ok.mp hr').1 (rule_ok.mp (ok o (List.mem_filter.mp ho).1)).1).trans z⟩
end
theorem opp_symm {r s : Rule} (hr : Up r.1) (hs : Up s.1) : oppC s r = oppC r s := by
  have hm : meetC s.1 r.1 = meetC r.1 s.1 := by
    rw [Bool.eq_iff_iff, meet_iff hr, meet_iff hs]
    exact ⟨fun z x hx y hy e => (z y hy x hx e.symm).symm, fun z x hx y hy e => (z y hy x hx e.symm).symm⟩
  unfold oppC
  rw [hm, Bool.and_comm (!strW s.1 r.1)]
  congr 1
  rw [Bool.eq_iff_iff, decide_eq_true_eq, decide_eq_true_eq]
  exact ⟨Ne.symm, Ne.symm⟩
theorem set_symm {z r s : Rule} : setC z s r = setC z r s := by
  unfold setC
  rw [Bool.or_comm]
  congr 1
  rw [Bool.eq_iff_iff, inC_iff, inC_iff]
  simp only [mem_tog]
  exact ⟨fun q x hx => (q x hx).symm, fun q x hx => (q x hx).symm⟩
theorem rw0_of {rs : List Rule} {r : Rule} (h : r ∈ rs) : ∃ i, i < rs.length ∧ rw0 rs i = r := by
  obtain ⟨i, hi, e⟩ := List.mem_iff_getElem.mp h
  exact ⟨i, hi, by unfold rw0; rw [getDat hi]; exact e⟩
theorem sets_ne {rs : List Rule} {i j : Nat} : (!(setsN rs i j).isEmpty) = true ↔ ∃ z ∈ rs, setC z (rw0 rs i) (rw0 rs j) = true := by
  rw [Bool.not_eq_true']
  constructor
  · intro h
    cases hs : setsN rs i j with
    | nil => rw [hs] at h; cases h
    | cons k l =>
      have : k ∈ setsN rs i j := by rw [hs]; exact List.mem_cons_self
      obtain ⟨k1, k2⟩ := List.mem_filter.mp this
      exact ⟨_, rw0_mem (List.mem_range.mp k1), k2⟩
  · rintro ⟨z, hz, q⟩
    obtain ⟨k, hk, rfl⟩ := rw0_of hz
    have : k ∈ setsN rs i j := List.mem_filter.mpr ⟨List.mem_range.mpr hk, q⟩
    cases hs : setsN rs i j with
    | nil => rw [hs] at this; cases this
    | cons _ _ => rfl
theorem areSet_iff {rs : List Rule} (up : ∀ r ∈ rs, Up r.1) : areSet rs = true ↔ ∀ r ∈ rs, ∀ s ∈ rs, oppC r s = true → ∃ z ∈ rs, setC z r s = true := by
  unfold areSet
  rw [List.all_eq_true]
  constructor
  · intro h r hr s hs ho
    obtain ⟨i, hi, rfl⟩ := rw0_of hr
    obtain ⟨j, hj, rfl⟩ := rw0_of hs
    have ne : i ≠ j := by
      rintro rfl
      unfold oppC at ho
      simp at ho
    rcases Nat.lt_or_gt_of_ne ne with lt | lt
    · exact sets_ne.mp (h (i, j) (mem_pairsN.mpr ⟨lt, hj, ho⟩))
    · obtain ⟨z, hz, q⟩ := sets_ne.mp (h (j, i) (mem_pairsN.mpr ⟨lt, hi, by rw [opp_symm (up _ hr) (up _ hs)]; exact ho⟩))
      exact ⟨z, hz, by rw [← set_symm]; exact q⟩
  · intro h p hp
    obtain ⟨h1, h2, h3⟩ := mem_pairsN.mp hp
    exact sets_ne.mpr (h _ (rw0_mem (by omega)) _ (rw0_mem h2) h3)
theorem areSet_perm {rs os : List Rule} (up : ∀ r ∈ rs, Up r.1) (pm : os.Perm rs) : areSet os = areSet rs := by
  rw [Bool.eq_iff_iff, areSet_iff up, areSet_iff fun r hr => up r (pm.mem_iff.mp hr)]
  simp only [pm.mem_iff]
theorem areSet_send {f g h : Int → Int} (F : One f 5) (G : One g 10) (Hh : One h 100) {rs : List Rule} (ok : ∀ r ∈ rs, okRule r = true) : areSet (rs.map (sendR f g h)) = areSet rs := by
  have up : ∀ r ∈ rs, Up r.1 := fun r hr => (okCase_iff.mp (rule_ok.mp (ok r hr)).1).2
  have up2 : ∀ r ∈ rs.map (sendR f g h), Up r.1 := fun r hr => by
    obtain ⟨s, hs, rfl⟩ := List.mem_map.mp hr
    exact (okCase_iff.mp (rule_ok.mp (sendR_ok F G Hh (ok s hs))).1).2
  rw [Bool.eq_iff_iff, areSet_iff up, areSet_iff up2]
  constructor
  · intro q r hr s hs ho
    obtain ⟨z', hz', e⟩ := q _ (List.mem_map.mpr ⟨r, hr, rfl⟩) _ (List.mem_map.mpr ⟨s, hs, rfl⟩) (by rw [opp_send F G Hh (ok r hr) (ok s hs)]; exact ho)
    obtain ⟨z, hz, rfl⟩ := List.mem_map.mp hz'
    rw [set_send F G Hh (ok z hz) (ok r hr) (ok s hs)] at e
    exact ⟨z, hz, e⟩
  · intro q r' hr' s' hs' ho
    obtain ⟨r, hr, rfl⟩ := List.mem_map.mp hr'
    obtain ⟨s, hs, rfl⟩ := List.mem_map.mp hs'
    rw [opp_send F G Hh (ok r hr) (ok s hs)] at ho
    obtain ⟨z, hz, e⟩ := q r hr s hs ho
    exact ⟨_, List.mem_map.mpr ⟨z, hz, rfl⟩, by rw [set_send F G Hh (ok z hz) (ok r hr) (ok s hs)]; exact e⟩
end DL
/-! DO7: + by an own method, the right side of another kind. -/
namespace DL
open PySem PySem.Spec PyProof.Rows L2 Enc PySem.Calls
section
variable {prog : Program} {w : World} {A : Around} {E : Value → Shared → Prop} {s : Shared} {K : PySem.W.Frag} {x C f L : Addr} {ox : Obj} {od : Option Obj} {y : Value} {h₀ : Heap} {m : Str → Option Value}
theorem inPy_K {h : Heap} {nm : String} (X : K.In h) (h1 : PySem.W.findIn K (.ref C) (PySem.dunder nm) = some (some (.ref f))) (h2 : PySem.W.findIn K (.ref C) (PySem.dunderR nm) = some none) : PySem.W.Looks (model prog w) h (numberSlotInPython (.ref C) nm) true := by
  intro A Q E s k q
  unfold numberSlotInPython
  apply wpAny_bind
  apply PySem.W.looks_findIn X h1 A _ E s k
  apply wpAny_bind
  apply wpAny_pure
  apply wpAny_bind
  apply PySem.W.looks_findIn X h2 A _ E s k
  apply wpAny_bind
  apply wpAny_pure
  exact wpAny_pure q
theorem add_other {Q : Value → Shared → Prop} {tb : Value} {rr bb : Bool} {vr : Option Value} (X : K.In s.heap) (J : PySem.W.InstAt s.heap x ox C od) (hy : PySem.W.Looks (model prog w) s.heap (typeOf y) tb) (hne : (Value.ref C == tb) = false) (hc : PySem.W.selfFirst K C = true)
    (h1 : PySem.W.findIn K (.ref C) "__add__" = some (some (.ref f))) (h2 : PySem.W.findIn K (.ref C) "__radd__" = some none) (hf : PySem.W.isFn K (.ref f) = true) (hr : PySem.W.Looks (model prog w) s.heap (fillsNumberSlot tb "add") rr) (hsb : PySem.W.Looks (model prog w) s.heap (isSubtype tb (.ref C)) false)
    (hpb : PySem.W.Looks (model prog w) s.heap (numberSlotInPython tb "add") bb) (hv : PySem.W.Looks (model prog w) s.heap (typeLookup tb "__radd__") vr) (h : wpAny (model prog w) A (call (.ref f) [.ref x, y]) (PySem.W.CmpBack Q) E s) : wpAny (model prog w) A (binaryOp .Add (.ref x) y) Q E s := by
  obtain ⟨cd, hcd, hm⟩ := PySem.W.any_some hc
  obtain ⟨rest, hm⟩ : ∃ rest, cd.mro = .ref C :: rest := by
    cases q : cd.mro with
    | nil => rw [q] at hm; cases hm
    | cons a r => rw [q, List.head?_cons] at hm; cases (beq_iff_eq.mp hm); exact ⟨r, rfl⟩
  have hl : PySem.W.Looks (model prog w) s.heap (fillsNumberSlot (.ref C) "add") true := PySem.W.fills_K X hcd hm h1
  have hp : PySem.W.Looks (model prog w) s.heap (numberSlotInPython (.ref C) "add") true := inPy_K X h1 h2
  have fin : ∀ {Q' : Option Value → Shared → Prop}, (∀ v s', Q v s' → Q' (some v) s') → wpAny (model prog w) A (tryMethod (.ref x) "__add__" y) Q' E s := by
    intro Q' hq
    unfold tryMethod
    refine wpAny_bind (PySem.W.special_fn X J h1 (beq_iff_eq.mp hf) (wpAny_mono h (fun v s' hv => ?_) fun _ _ e => e))
    cases v <;> first | exact hv.elim | exact wpAny_pure (hq _ _ hv)
  unfold binaryOp
  apply wpAny_holding
  apply wpAny_bind
  show wpAny _ _ (binaryOp1 "add" (.ref x) y) _ _ _
  unfold binaryOp1
  apply wpAny_bind
  apply J.type.here
  apply wpAny_bind
  apply hy.here
  apply wpAny_bind
  apply hl.here
  rw [hne]
  simp only [Bool.false_eq_true, if_false]
  apply wpAny_bind
  apply hr.here
  cases rr with
  | false =>
    simp only [Bool.and_false, Bool.false_eq_true, if_false, Bool.false_and]
    apply wpAny_bind
    apply wpAny_pure
    simp only [Bool.false_eq_true, if_false, if_true]
    apply wpAny_bind
    refine fin fun v s' q => ?_
    exact wpAny_pure (wpAny_pure q)
  | true =>
    simp only [Bool.and_true, Bool.true_and, if_true, Bool.not_false]
    apply wpAny_bind
    apply hsb.here
    simp only [Bool.false_eq_true, if_false, Bool.not_false, Bool.and_true, if_true]
    apply wpAny_bind
    apply hp.here
    simp only [if_true]
    apply wpAny_bind
    apply hpb.here
    cases bb with
    | false =>
      simp only [Bool.not_false, if_true]
      apply wpAny_bind
      apply hv.here
      apply wpAny_bind
      refine fin fun v s' q => ?_
      exact wpAny_pure (wpAny_pure q)
    | true =>
      simp only [Bool.not_true, Bool.false_eq_true, if_false]
      apply wpAny_bind
      refine fin fun v s' q => ?_
      exact wpAny_pure (wpAny_pure q)
end
end DL
/-! DO8: kinds of values on the right of an own +. -/
namespace DL
open PySem PySem.Spec PyProof.Rows L2 Enc PySem.Calls
def numK (T : String) : Bool := T == "int" || T == "bool"
def raK (T : String) : Option Value := if numK T then some (.builtin "int.__radd__") else none
def oddK : List String := ["NoneType", "int", "bool", "str", "tuple", "list", "dict"]
theorem ra_kind (T : String) (h : T ∈ oddK) : typeLookup (.type T) "__radd__" = pure (raK T) := by
  simp only [oddK, List.mem_cons, List.not_mem_nil, or_false] at h
  rcases h with rfl | rfl | rfl | rfl | rfl | rfl | rfl <;> (rw [typeLookup_type, builtinLookup_eq_fast]; kernel_rfl)
theorem ad_kind (T : String) (h : T ∈ oddK) : ∃ v, typeLookup (.type T) "__add__" = pure v ∧ ((v.isSome && !isSeqSlot v) || ((raK T).isSome && !isSeqSlot (raK T))) = numK T := by
  simp only [oddK, List.mem_cons, List.not_mem_nil, or_false] at h
  rcases h with rfl | rfl | rfl | rfl | rfl | rfl | rfl
  · exact ⟨none, by rw [typeLookup_type, builtinLookup_eq_fast]; kernel_rfl, by decide +kernel⟩
  · exact ⟨some (.builtin "int.__add__"), by rw [typeLookup_type, builtinLookup_eq_fast]; kernel_rfl, by decide +kernel⟩
  · exact ⟨some (.builtin "int.__add__"), by rw [typeLookup_type, builtinLookup_eq_fast]; kernel_rfl, by decide +kernel⟩
  · exact ⟨some (.builtin "str.__add__"), by rw [typeLookup_type, builtinLookup_eq_fast]; kernel_rfl, by decide +kernel⟩
  · exact ⟨some (.builtin "tuple.__add__"), by rw [typeLookup_type, builtinLookup_eq_fast]; kernel_rfl, by decide +kernel⟩
  · exact ⟨some (.builtin "list.__add__"), by rw [typeLookup_type, builtinLookup_eq_fast]; kernel_rfl, by decide +kernel⟩
  · exact ⟨none, by rw [typeLookup_type, builtinLookup_eq_fast]; kernel_rfl, by decide +kernel⟩
theorem fl_kind (T : String) (h : T ∈ oddK) : fillsNumberSlot (.type T) "add" = pure (numK T) := by
  obtain ⟨v, e1, e2⟩ := ad_kind T h
  have e3 := ra_kind T h
  unfold fillsNumberSlot
  show (do let f ← typeLookup (.type T) "__add__"; let r ← typeLookup (.type T) "__radd__"; pure ((f.isSome && !isSeqSlot f) || (r.isSome && !isSeqSlot r))) = _
  rw [e1, e3]
  show (pure ((v.isSome && !isSeqSlot v) || ((raK T).isSome && !isSeqSlot (raK T))) : Sem Bool) = _
  rw [e2]
theorem py_kind (T : String) : numberSlotInPython (.type T) "add" = pure false := rfl
/-- data of a built-in kind -/
def kindD : Dd → Option String
  | .non => some "NoneType"
  | .int _ => some "int"
  | .bl _ => some "bool"
  | .str _ => some "str"
  | .tup _ => some "tuple"
  | .lst _ => some "list"
  | .dic _ _ => some "dict"
  | _ => none
theorem kindD_in {d : Dd} {T : String} (h : kindD d = some T) : T ∈ oddK := by
  cases d <;> simp [kindD] at h <;> subst h <;> decide
end DL
/-! DO9: an own + with data of a built-in kind, or an instance of another class, on the right. -/
namespace DL
open PySem PySem.Spec PyProof.Rows L2 Enc PySem.Calls
section
variable {X : Cx} {W : WX} {pins : List (Addr × Obj)} {σ : L2.St} {H Hf : Hp} {M : MS} {s : Shared} {v : V} {u : Value} {d : Dd} {T : String}
theorem looks_ref {h : Heap} {a : Addr} {o : Obj} {c : Value} (ho : h.get? a = some o) (hc : o.cls = c) : PySem.W.Looks (model X.prog X.w) h (typeOf (.ref a)) c := by
  intro A Q E s k q
  refine wpAny_typeOf_ref (k _ _ ho) ?_
  rw [hc]
  exact q
theorem typeD (I : Inv X pins σ H s) (wd : Wd Hf M H) (rt : RepT Hf M H v d) (rv : RelV v u) (h : kindD d = some T) : PySem.W.Looks (model X.prog X.w) s.heap (typeOf u) (.type T) := by
  have flat : ∀ {v : V} {d : Dd}, RepT Hf M H v d → (d = .non ∨ (∃ b, d = .bl b) ∨ (∃ i, d = .int i) ∨ ∃ z, d = .str z) → Rep Hf v d := by
    intro v d r e
    cases r with
    | fz r => exact r
    | @mu a mo _ _ => cases mo <;> rcases e with e | ⟨_, e⟩ | ⟨_, e⟩ | ⟨_, e⟩ <;> cases e
  cases d with
  | non =>
    cases h
    cases flat rt (.inl rfl)
    cases rv
    exact .of_pure rfl
  | bl b =>
    cases h
    cases flat rt (.inr (.inl ⟨_, rfl⟩))
    cases rv
    exact .of_pure rfl
  | int i =>
    cases h
    cases flat rt (.inr (.inr (.inl ⟨_, rfl⟩)))
    obtain ⟨t, rfl⟩ := rv
    exact .of_pure rfl
  | str z =>
    cases h
    cases flat rt (.inr (.inr (.inr ⟨_, rfl⟩)))
    obtain ⟨t, rfl⟩ := rv
    exact .of_pure rfl
  | tup ds =>
    cases h
    obtain ⟨a, xs, rfl, ha, _⟩ := rt.tup
    obtain rfl : u = Value.ref a := rv
    obtain ⟨its, _, ⟨o, ho, hc, _⟩, _⟩ := I.tuple (.inl (rd_mono wd.le ha))
    exact looks_ref ho hc
  | lst ds =>
    cases h
    obtain ⟨a, xs, rfl, ha, _⟩ := rt.lst wd.le
    obtain rfl : u = Value.ref a := rv
    obtain ⟨its, _, hl, _⟩ := I.list (.of ha)
    obtain ⟨o, ho, hc, _⟩ := hl.isList
    exact looks_ref ho hc
  | dic ks ds =>
    cases h
    obtain ⟨a, kvs, rfl, ha, _, _⟩ := rt.dic wd.le
    obtain rfl : u = Value.ref a := rv
    obtain ⟨_, _, vs, _, o, es, ep, ho, hc, _⟩ := dk_of I.hok ha
    exact looks_ref ho hc.1
  | _ => cases h
/-- {} -/
theorem d_dict0 {pos : Pos} : PE X (.Dict [] [] pos) (low W (wC (.dic [] []))) := by
  refine PE.imp pe_dnewK fun σ H Q ⟨sl, Hf, M, Qd, Xd, rl, w, k, kx⟩ => ?_
  intro q hq
  have g := Grow.one (o := .dK []) rl.wd.le hq
  exact k _ _ M _ _ (Stp.grow rl.wd g) (.dic upd_same rfl .nil) w
end
end DL
/-! DOa: a + b, a an instance with an own +, b of any kind. -/
namespace DL
open PySem PySem.Spec PyProof.Rows L2 Enc PySem.Calls
structure AddX (K : PySem.W.Frag) (cs : List Addr) (C g : Addr) : Prop where
  sf : PySem.W.selfFirst K C = true
  at_ : PySem.W.findIn K (.ref C) "__add__" = some (some (.ref g))
  ra : PySem.W.findIn K (.ref C) "__radd__" = some none
  fn : PySem.W.isFn K (.ref g) = true
  sub : ∀ T ∈ oddK, PySem.W.subIn K (.type T) (.ref C) = some false
  subC : ∀ D ∈ cs, D ≠ C → PySem.W.subIn K (.ref D) (.ref C) = some false
def RightOk (cs : List Addr) (d : Dd) : Prop := (∃ D ks ds, d = .ins D ks ds ∧ D ∈ cs) ∨ ∃ T, kindD d = some T
section
variable {X : Cx} {W : WX} {cs : List Addr} {k : Nat} {sp : Addr → DSp} {g : Addr → Addr} {a b : Expr} {wa wb : DL.WE} {pos : Pos}
def wAddA (cs : List Addr) (sp : Addr → DSp) (wa wb : DL.WE) : DL.WE := fun sl M Q E => wa sl M (fun d M1 => wb sl M1 (fun e M2 => ∃ C ks ds, der M2 d = .ins C ks ds ∧ RightOk cs (der M2 e) ∧ C ∈ cs ∧ sp C [d, e] M2 Q E) E) E
theorem low_addA {σ : L2.St} {H : Hp} {Q : VK} (h : low W (wAddA cs sp wa wb) σ H Q) : low W wa σ H fun x H1 => low W wb σ H1 fun y H2 => ∃ a C dx fs Hf M d, x = .ref a ∧ H2 a = some (.ins C dx fs) ∧ Wd Hf M H2 ∧ RepT Hf M H2 y d ∧ RightOk cs d ∧ C ∈ cs ∧ liftV (sp C) [.ref a, y] H2 Q (fun c d H => W c d σ H) := by
  obtain ⟨sl, Hf, M, Qd, Xd, rl, w, k, kx⟩ := h
  refine ⟨sl, Hf, M, _, Xd, rl, w, fun d Hf1 M1 v H1 s1 r1 w1 => ?_, kx⟩
  refine ⟨sl, Hf1, M1, _, Xd, rl.step s1, w1, fun e Hf2 M2 u H2 s2 r2 w2 => ?_, fun c Hf' M' H' s q => kx c Hf' M' H' (s1.trans s) q⟩
  obtain ⟨C, ks, ds, hd, he, hC, q⟩ := w2
  have rt1 := RepT.of s2.wd (r1.mono s2.up)
  rw [hd] at rt1
  obtain ⟨a, dx, fs, rfl, ha, _, _⟩ := rt1.ins s2.wd.le
  exact ⟨a, C, dx, fs, Hf2, M2, _, rfl, ha, s2.wd, RepT.of s2.wd r2, he, hC, [d, e], Hf2, M2, Qd, Xd, .cons (r1.mono s2.up) (.cons r2 .nil), s2.wd, q, fun d Hf3 M3 v H3 s3 => k d Hf3 M3 v H3 ((s1.trans s2).trans s3), fun c Hf3 M3 H3 s3 => kx c Hf3 M3 H3 ((s1.trans s2).trans s3)⟩
theorem d_addA (bA : Bare bm X.A) (hr : Room k X.A) (tk : Takes X W) (hc : ∀ C ∈ cs, AddX X.K cs C (g C)) (F : ∀ C ∈ cs, FD bm X k (g C) (sp C)) (ha : PE X a (low W wa)) (hb : PE X b (low W wb)) : PE X (.BinOp a .Add b pos) (low W (wAddA cs sp wa wb)) := by
  refine ⟨fun pins s σ H Q I h => ?_⟩
  refine wpAny_BinOp (binT ha hb I (low_addA h) fun v u s2 x y H2 I2 rx ry q => ?_)
  obtain ⟨a, C, dx, fs, Hf, M, d, rfl, h1, wd, rt, ok, hC, q⟩ := q
  obtain rfl : v = Value.ref a := rx
  obtain ⟨mA, J, _⟩ := ins_get I2.hok h1
  obtain ⟨od, J, _⟩ := J.look
  have c := hc C hC
  have run : wpAny (model X.prog X.w) X.A (call (.ref (g C)) [.ref a, u]) (PySem.W.CmpBack (EP X pins σ Q)) X.xe s2 :=
    wpAny_mono (run_G (us := [.ref a, u]) (vs := [.ref a, y]) (F C hC) bA hr (passAt tk σ) I2 (.cons rfl (.cons ry .nil)) q) (fun _ _ z => ep_cmp z) fun _ _ z => z
  rcases ok with ⟨D, ks, ds, rfl, hD⟩ | ⟨T, hT⟩
  · obtain ⟨b, dy, gs, rfl, h2, _, _⟩ := rt.ins wd.le
    obtain rfl : u = Value.ref b := ry
    obtain ⟨mB, J2, _⟩ := ins_get I2.hok h2
    obtain ⟨od2, J2, _⟩ := J2.look
    by_cases e : D = C
    · subst e
      obtain ⟨m, hF⟩ := I2.fr
      exact PySem.W.binop_K hF I2.ok.mod.kin J J2.type c.sf c.at_ c.fn run
    · have c2 := hc D hD
      have X2 := I2.kIn
      obtain ⟨cd, hcd, hm⟩ := PySem.W.any_some c2.sf
      obtain ⟨rest, hm⟩ : ∃ rest, cd.mro = .ref D :: rest := by
        cases q : cd.mro with
        | nil => rw [q] at hm; cases hm
        | cons a r => rw [q, List.head?_cons] at hm; cases (beq_iff_eq.mp hm); exact ⟨r, rfl⟩
      refine add_other X2 J J2.type ?_ c.sf c.at_ c.ra c.fn (PySem.W.fills_K X2 hcd hm c2.at_) (PySem.W.looks_subIn X2 (c.subC D hD e)) (inPy_K X2 c2.at_ c2.ra) (PySem.W.looks_findIn X2 c2.ra) run
      rw [beq_eq_false_iff_ne]
      intro z
      injection z with z
      exact e z.symm
  · have hTi := kindD_in hT
    refine add_other I2.kIn J (typeD I2 wd rt ry hT) ?_ c.sf c.at_ c.ra c.fn (.of_pure (fl_kind T hTi)) (PySem.W.looks_subIn I2.kIn (c.sub T hTi)) (.of_pure (py_kind T)) (.of_pure (ra_kind T hTi)) run
    rw [beq_eq_false_iff_ne]
    intro z
    cases z
end
end DL
/-! DN1: tables of any size: i -> 5 i + 1 meets all below a power of two. -/
namespace DN
open PySem PySem.Spec PyProof.Rows L2
theorem five : ∀ n : Nat, ∃ q, 5 ^ (2 ^ n) = 1 + 4 * 2 ^ n * (2 * q + 1)
  | 0 => ⟨0, by decide⟩
  | n + 1 => by
    obtain ⟨q, h⟩ := five n
    refine ⟨q + 2 ^ n * ((2 * q + 1) * (2 * q + 1)), ?_⟩
    have e : (5 : Nat) ^ (2 ^ (n + 1)) = 5 ^ (2 ^ n) * 5 ^ (2 ^ n) := by rw [← Nat.pow_add, Nat.pow_succ, Nat.mul_two]
    rw [e, h, Nat.pow_succ]
    generalize 2 ^ n = P
    grind
def F (i : Nat) : Nat → Nat
  | 0 => i
  | k + 1 => F i k * 5 + 1
theorem F_four (i : Nat) : ∀ k, 4 * F i k + 1 = 5 ^ k * (4 * i + 1)
  | 0 => by simp [F]
  | k + 1 => by
    have := F_four i k
    rw [F, Nat.pow_succ, Nat.mul_comm (5 ^ k) 5, Nat.mul_assoc, ← this]
    omega
theorem F_add (i : Nat) (a : Nat) : ∀ k, F (F i a) k = F i (a + k)
  | 0 => rfl
  | k + 1 => by
    show F (F i a) k * 5 + 1 = F i (a + k) * 5 + 1
    rw [F_add i a k]
/-- half a round on: the other half -/
theorem F_half (i n : Nat) : ∃ r, F i (2 ^ n) = i + 2 ^ n * (2 * r + 1) := by
  obtain ⟨q, h⟩ := five n
  have e := F_four i (2 ^ n)
  rw [h] at e
  refine ⟨4 * q * i + q + 2 * i, ?_⟩
  generalize F i (2 ^ n) = x at e
  generalize 2 ^ n = P at e
  grind
theorem F_all (i j : Nat) : ∀ n, ∃ k, k < 2 ^ n ∧ F i k % 2 ^ n = j % 2 ^ n
  | 0 => ⟨0, by simp, by simp [Nat.mod_one]⟩
  | n + 1 => by
    obtain ⟨k, hk, e⟩ := F_all i j n
    have hp : 0 < 2 ^ n := Nat.pow_pos (by decide)
    rw [Nat.pow_succ]
    by_cases c : F i k / 2 ^ n % 2 = j / 2 ^ n % 2
    · exact ⟨k, by omega, by rw [Nat.mod_mul, Nat.mod_mul, e, c]⟩
    · obtain ⟨r, hr⟩ := F_half (F i k) n
      rw [F_add] at hr
      refine ⟨k + 2 ^ n, by omega, ?_⟩
      rw [hr, Nat.mod_mul, Nat.mod_mul, Nat.add_mul_mod_self_left, Nat.add_mul_div_left _ _ hp, e]
      congr 2
      omega
theorem lcg_F (m i : Nat) (hi : i ≤ m) : ∀ k, lcgI m i k = F i k % (m + 1)
  | 0 => (Nat.mod_eq_of_lt (Nat.lt_succ_of_le hi)).symm
  | k + 1 => by
    show (lcgI m i k * 5 + 1) % (m + 1) = (F i k * 5 + 1) % (m + 1)
    rw [lcg_F m i hi k, Nat.add_mod, Nat.mul_mod, Nat.mod_mod, ← Nat.mul_mod, ← Nat.add_mod]
/-- the masks that come, up to 4095 elements -/
def MP (m : Nat) : Prop := m = 7 ∨ m = 31 ∨ m = 127 ∨ m = 511 ∨ m = 2047 ∨ m = 8191
theorem MP.pow {m : Nat} (h : MP m) : ∃ n, m + 1 = 2 ^ n := by
  rcases h with rfl | rfl | rfl | rfl | rfl | rfl
  · exact ⟨3, rfl⟩
  · exact ⟨5, rfl⟩
  · exact ⟨7, rfl⟩
  · exact ⟨9, rfl⟩
  · exact ⟨11, rfl⟩
  · exact ⟨13, rfl⟩
theorem MP.big {m : Nat} (h : MP m) : 7 ≤ m ∧ m ≤ 8191 ∧ m % 2 = 1 := by
  rcases h with rfl | rfl | rfl | rfl | rfl | rfl <;> decide
theorem lcg_meets {m : Nat} (hm : MP m) {i j : Nat} (hi : i ≤ m) (hj : j ≤ m) : ∃ k, k ≤ m ∧ lcgI m i k = j := by
  obtain ⟨n, e⟩ := hm.pow
  obtain ⟨k, hk, q⟩ := F_all i j n
  refine ⟨k, by omega, ?_⟩
  rw [lcg_F m i hi, e, q, ← e]
  exact Nat.mod_eq_of_lt (by omega)
/-- a run of the way begins at each slot, soon enough -/
theorem runs_meet {m : Nat} (hm : MP m) (h : Int) {j : Nat} (hj : j ≤ m) : ∃ n, n ≤ m + 12 ∧ runI m (SetTable.bits h) n = j := by
  obtain ⟨k, hk, e⟩ := lcg_meets hm (runI_le m (SetTable.bits h) 12) hj
  refine ⟨12 + k, by omega, ?_⟩
  rw [runI_tail (bits_lt h), e]
theorem way_meets {m : Nat} (hm : MP m) (h : Int) {j : Nat} (hj : j ≤ m) : ∃ k, k < 10 * SetTable.turns m ∧ way m h k = j := by
  obtain ⟨n, hn, e⟩ := runs_meet hm h hj
  obtain ⟨k, hk, q⟩ := run_nth m (SetTable.bits h) n
  refine ⟨k, ?_, ?_⟩
  · unfold SetTable.turns
    omega
  · unfold way
    rw [q]
    exact e
theorem way_in (m : Nat) (h : Int) (k : Nat) : way m h k ≤ m := by
  have a : SetTable.bits h % (m + 1) ≤ m := Nat.le_of_lt_succ (Nat.mod_lt _ (Nat.succ_pos m))
  have b := runEnd_bd a
  have c := nth_in (m := m) k (runAt m (SetTable.bits h % (m + 1)) (SetTable.bits h)) (by
    show SetTable.bits h % (m + 1) + (SetTable.runEnd m (SetTable.bits h % (m + 1)) - SetTable.bits h % (m + 1)) ≤ m
    omega)
  unfold way
  omega
/-- a table in which each hash leads to its slot -/
structure TP (t : SetTable) (hs : List Int) : Prop where
  mp : MP t.mask
  ris : Ris t.place.toList
  dm : t.dummies = #[]
  len : t.place.toList.length = hs.length
  top : ∀ x, x ∈ t.place.toList → x ≤ t.mask
  led : ∀ (i j : Nat) (h : Int), t.place.toList[i]? = some j → hs[i]? = some h → ∃ k, way t.mask h k = j ∧ ∀ c, c < k → way t.mask h c ∈ t.place.toList
section
variable {t : SetTable} {hs : List Int}
/-- the first empty slot -/
theorem TP.gap (T : TP t hs) (hl : hs.length ≤ t.mask) (h : Int) : ∃ K, K < 10 * SetTable.turns t.mask ∧ way t.mask h K ∉ t.place.toList ∧ ∀ c, c < K → way t.mask h c ∈ t.place.toList := by
  obtain ⟨j, j1, j2⟩ := st_missing t.place.toList (t.mask + 1) (by rw [T.len]; omega)
  obtain ⟨k, k1, rfl⟩ := way_meets T.mp h (Nat.le_of_lt_succ j1)
  obtain ⟨K, a, b, c⟩ := st_least (p := fun k => way t.mask h k ∉ t.place.toList) k j2
  refine ⟨K, by omega, b, fun x hx => ?_⟩
  exact Classical.byContradiction (c x hx)
theorem TP.met (T : TP t hs) {h : Int} {K i j : Nat} (hK : way t.mask h K ∉ t.place.toList) (hj : t.place.toList[i]? = some j) (hi : hs[i]? = some h) : ∃ c, c < K ∧ way t.mask h c = j := by
  obtain ⟨k, e, b⟩ := T.led i j h hj hi
  refine ⟨k, Classical.byContradiction fun n => ?_, e⟩
  rcases Nat.eq_or_lt_of_le (Nat.le_of_not_lt n) with q | q
  · rw [q, e] at hK
    exact hK (List.mem_of_getElem? hj)
  · exact hK (b K q)
/-- one more -/
theorem TP.more (T : TP t hs) {h : Int} {K : Nat} (hK : way t.mask h K ∉ t.place.toList) (hb : ∀ c, c < K → way t.mask h c ∈ t.place.toList) {p : Nat} (hp : SetTable.below t.place (way t.mask h K) = p) :
    p ≤ hs.length ∧ TP (t.put (way t.mask h K)).1 (hs.take p ++ h :: hs.drop p) ∧ (t.put (way t.mask h K)).1.fill = hs.length + 1 := by
  have jm := way_in t.mask h K
  generalize ej : way t.mask h K = j at *
  obtain ⟨c1, -, -⟩ := below_cut T.ris j
  rw [hp, ← Array.length_toList, T.len] at c1
  have pp := put_place t j
  rw [hp] at pp
  have pl : p ≤ t.place.toList.length := by rw [T.len]; exact c1
  have ln : (t.put j).1.place.toList.length = hs.length + 1 := by rw [pp, len_ins _ pl, T.len]
  have old : ∀ x, x ∈ t.place.toList → x ∈ (t.put j).1.place.toList := fun x hx => by
    rw [pp]
    exact mem_ins.mpr (.inr hx)
  have no : t.place[SetTable.below t.place j]? ≠ some j := fun z => hK (List.mem_of_getElem? ((Array.getElem?_toList).trans z))
  refine ⟨c1, ⟨T.mp, ris_insert T.ris no, put_dm T.dm j, by rw [ln, len_ins _ c1], fun x hx => ?_, fun i j' h' h1 h2 => ?_⟩, ?_⟩
  · rw [pp, mem_ins] at hx
    rcases hx with rfl | hx
    · exact jm
    · exact T.top x hx
  · rw [pp, tins_get _ pl] at h1
    rw [tins_get _ c1] at h2
    by_cases a : i < p
    · rw [if_pos a] at h1 h2
      obtain ⟨k, e, z⟩ := T.led i j' h' h1 h2
      exact ⟨k, e, fun c hc => old _ (z c hc)⟩
    rw [if_neg a] at h1 h2
    by_cases b : i = p
    · rw [if_pos b] at h1 h2
      cases h1
      cases h2
      exact ⟨K, ej, fun c hc => old _ (hb c hc)⟩
    · rw [if_neg b] at h1 h2
      obtain ⟨k, e, z⟩ := T.led (i - 1) j' h' h1 h2
      exact ⟨k, e, fun c hc => old _ (z c hc)⟩
  · unfold SetTable.fill
    rw [put_dm T.dm j, ← Array.length_toList, ln]
    rfl
end
/-! ### all laid anew -/
theorem free_way {m : Nat} (hm : MP m) (ow : Array (Option Nat)) (h : Int) {j : Nat} (hj : j ≤ m) (hf : oAt ow j = none) :
    ∃ K, SetTable.layClean.free m ow (SetTable.turns m) (SetTable.bits h % (m + 1)) (SetTable.bits h) = some (way m h K) ∧ oAt ow (way m h K) = none ∧ ∀ c, c < K → oAt ow (way m h c) ≠ none := by
  obtain ⟨n, hn, e⟩ := runs_meet hm h hj
  generalize eo : off m (SetTable.bits h % (m + 1)) (SetTable.bits h) n = o
  have hw : way m h o = j := by
    unfold way
    rw [← eo, nth_off, itL_run]
    exact e
  obtain ⟨K, k1, k2, k3⟩ := st_least (p := fun k => oAt ow (way m h k) = none) o (by rw [hw]; exact hf)
  refine ⟨K, ?_, k2, k3⟩
  refine free_spec m ow _ n _ _ K (by unfold SetTable.turns; omega) (by rw [eo]; exact k1) (fun c hc => ?_) (by rw [show oAt ow (nth m (runAt m (SetTable.bits h % (m + 1)) (SetTable.bits h)) K).j = none from k2]; rfl)
  cases z : oAt ow (nth m (runAt m (SetTable.bits h % (m + 1)) (SetTable.bits h)) c).j with
  | none => exact absurd z (k3 c hc)
  | some _ => rfl
theorem own_next {m : Nat} (hm : MP m) {done : List Int} {ow : Array (Option Nat)} (W : Own m done ow) (hl : done.length ≤ m) (h : Int) :
    ∃ j, SetTable.layClean.free m ow (SetTable.turns m) (SetTable.bits h % (m + 1)) (SetTable.bits h) = some j ∧ Own m (done ++ [h]) (ow.setIfInBounds j (some done.length)) := by
  obtain ⟨ps, p1, p2⟩ := W.ps
  obtain ⟨x, x1, x2⟩ := st_missing ps (m + 1) (by omega)
  have x3 : oAt ow x = none := Classical.byContradiction fun z => x2 (p2 x (Nat.le_of_lt_succ x1) z)
  obtain ⟨K, e1, e2, e3⟩ := free_way hm ow h (Nat.le_of_lt_succ x1) x3
  have jm := way_in m h K
  have js : way m h K < ow.size := by rw [W.sz]; omega
  have me := oAt_set_self (some done.length) js
  generalize ej : way m h K = j at *
  have up : ∀ i, oAt ow i ≠ none → oAt (ow.setIfInBounds j (some done.length)) i ≠ none := fun i hi => by
    by_cases c : i = j
    · rw [c, me]; nofun
    · rw [oAt_set_ne _ c]; exact hi
  refine ⟨j, e1, ⟨by rw [Array.size_setIfInBounds, W.sz], fun i k hi e => ?_, fun k hk => ?_, j :: ps, by simp [p1], fun i hi e => ?_⟩⟩
  · by_cases c : i = j
    · rw [c, me] at e
      cases e
      exact ⟨h, K, by simp, by rw [c, ej], fun c hc => up _ (e3 c hc)⟩
    · rw [oAt_set_ne _ c] at e
      obtain ⟨h', K', a1, a2, a3⟩ := W.at_ i k hi e
      have a4 := (List.getElem?_eq_some_iff.mp a1).1
      exact ⟨h', K', by rw [List.getElem?_append_left a4, a1], a2, fun c hc => up _ (a3 c hc)⟩
  · by_cases c : k < done.length
    · obtain ⟨i, hi, e⟩ := W.all k c
      have ne : i ≠ j := fun z => by rw [z, e2] at e; cases e
      exact ⟨i, hi, by rw [oAt_set_ne _ ne, e]⟩
    · have : k = done.length := by simp at hk; omega
      rw [this]
      exact ⟨j, jm, me⟩
  · by_cases c : i = j
    · rw [c]; exact List.mem_cons_self
    · rw [oAt_set_ne _ c] at e
      exact List.mem_cons_of_mem _ (p2 i hi e)
theorem own_all {m : Nat} (hm : MP m) : ∀ (rest done : List Int) (ow : Array (Option Nat)), Own m done ow → done.length + rest.length ≤ m →
    ∃ ow', rest.foldl (stepF m) (some (ow, done.length)) = some (ow', (done ++ rest).length) ∧ Own m (done ++ rest) ow'
  | [], done, ow, W, _ => ⟨ow, by simp, by simpa using W⟩
  | h :: rest, done, ow, W, hl => by
    rw [List.length_cons] at hl
    obtain ⟨j, e, W'⟩ := own_next hm W (by omega) h
    obtain ⟨ow', f, W2⟩ := own_all hm rest (done ++ [h]) _ W' (by simp; omega)
    refine ⟨ow', ?_, by simpa using W2⟩
    rw [List.foldl_cons, stepF_some e]
    simpa using f
theorem laid_again (t : SetTable) {hs : Array Int} {wanted M : Nat} (hw : SetTable.sizeAbove wanted - 1 = M) (hM : MP M) (hn : hs.size ≤ M) :
    ∃ t' order, t.relaid hs wanted = some (t', order) ∧ order.toList.Perm (List.range hs.size) ∧ TP t' (order.toList.map fun i => hs.getD i 0) ∧ t'.mask = M ∧ t'.led = t.led ∧ t'.plain = t.plain := by
  obtain ⟨ow, f, W⟩ := own_all hM hs.toList [] _ (Own.init M) (by simpa using hn)
  rw [List.nil_append] at W f
  have lc : SetTable.layClean M hs = some ow := by
    rw [layClean_eq]
    show (hs.toList.foldl (stepF M) (some (Array.replicate (M + 1) none, ([] : List Int).length))).map (·.1) = _
    rw [f]
    rfl
  have rl : t.relaid hs wanted = some (tabOf t M ow, ((liveOf M ow).map (·.2)).toArray) := by rw [relaid_eq, hw, lc]; rfl
  obtain ⟨r1, r2⟩ := ris_live (fun j => ow.getD j none) (List.range (M + 1)) List.pairwise_lt_range
  have r1 : Ris ((liveOf M ow).map (·.1)) := r1
  have r2 : ∀ x ∈ (liveOf M ow).map (·.1), x ∈ List.range (M + 1) := r2
  have all2 : ∀ k, k < hs.size → k ∈ (liveOf M ow).map (·.2) := fun k hk => by
    obtain ⟨j, b1, b2⟩ := W.all k (by rw [Array.length_toList]; exact hk)
    exact List.mem_map.mpr ⟨(j, k), (mem_live W.sz).mpr ⟨b1, b2⟩, rfl⟩
  have ll : (liveOf M ow).length = hs.size := by
    obtain ⟨ps, p1, p2⟩ := W.ps
    have nd : ((liveOf M ow).map (·.1)).Nodup := List.Pairwise.imp (fun h => Nat.ne_of_lt h) r1
    have a := nat_nodup_len ((liveOf M ow).map (·.1)) ps nd fun x hx => by
      obtain ⟨⟨y, k⟩, hq, rfl⟩ := List.mem_map.mp hx
      obtain ⟨b1, b2⟩ := (mem_live W.sz).mp hq
      exact p2 y b1 (by rw [b2]; nofun)
    have b := nat_nodup_len (List.range hs.size) ((liveOf M ow).map (·.2)) List.nodup_range fun k hk => all2 k (List.mem_range.mp hk)
    simp at a b
    have : hs.toList.length = hs.size := Array.length_toList
    omega
  refine ⟨_, _, rl, perm_range _ _ (by show ((liveOf M ow).map (·.2)).length = _; rw [List.length_map, ll]) all2, ⟨hM, r1, rfl, by show ((liveOf M ow).map (·.1)).length = (((liveOf M ow).map (·.2)).map _).length; simp, fun x hx => Nat.le_of_lt_succ (List.mem_range.mp (r2 x hx)), fun i j h h2 h1 => ?_⟩, rfl, rfl, rfl⟩
  have h1 : (((liveOf M ow).map (·.2)).map fun i => hs.getD i 0)[i]? = some h := h1
  have h2 : ((liveOf M ow).map (·.1))[i]? = some j := h2
  rw [List.getElem?_map, List.getElem?_map] at h1
  rw [List.getElem?_map] at h2
  cases hq : (liveOf M ow)[i]? with
  | none => rw [hq] at h2; cases h2
  | some q =>
    obtain ⟨y, k⟩ := q
    rw [hq] at h1 h2
    obtain rfl : y = j := Option.some.inj h2
    obtain ⟨b1, b2⟩ := (mem_live W.sz).mp (List.mem_of_getElem? hq)
    obtain ⟨h0, K, a1, a2, a3⟩ := W.at_ _ k b1 b2
    have e0 : hs.getD k 0 = h0 := by
      rw [Array.getD_eq_getD_getElem?, ← Array.getElem?_toList, a1]
      rfl
    have e1 : hs.getD k 0 = h := Option.some.inj h1
    rw [e0] at e1
    subst e1
    refine ⟨K, a2, fun c hc => ?_⟩
    show way M h0 c ∈ (liveOf M ow).map (·.1)
    cases z : oAt ow (way M h0 c) with
    | none => exact absurd z (a3 c hc)
    | some x => exact List.mem_map.mpr ⟨_, (mem_live W.sz).mpr ⟨way_in M h0 c, z⟩, rfl⟩
end DN
/-! DN2: sets of nested tuples of numbers: searching. -/
namespace DN
open PySem PySem.Spec PyProof.Rows L2
mutual
/-- numbers, and tuples of such -/
def Nm : NestedKey → Bool
  | .num _ => true
  | .tup ks => NmAll ks
  | .none => false
  | .text _ => false
def NmAll : List NestedKey → Bool
  | [] => true
  | k :: ks => Nm k && NmAll ks
end
/-- at a there is a tuple with the key k -/
structure NK (h : Heap) (k : NestedKey) (a : Addr) : Prop where
  here : NestedIs h k (.ref a)
  nums : Nm k = true
  low : k.depth ≤ 8
section
variable {P : Program} {w : World}
def OcAt (P : Program) (w : World) (n : Nat) (s : Shared) (v : Value) : Prop := ∀ (A : Around) (E : Value → Shared → Prop) (Q : Bool → Shared → Prop), Q false s → wpAny (model P w) A (ofAClassStatement n v) Q E s
def HbAt (P : Program) (w : World) (n : Nat) (s : Shared) (v : Value) : Prop := ∀ (A : Around) (E : Value → Shared → Prop) (Q : Bool → Shared → Prop), Q true s → wpAny (model P w) A (hashByValue n v) Q E s
theorem OcAt.tup {n m : Nat} {s : Shared} {a : Addr} {o : Obj} {vs : Array Value} (g : s.heap.get? a = some o) (c : o.cls = .type "tuple") (d : o.data = .seq vs m) (all : ∀ v ∈ vs.toList, OcAt P w n s v) : OcAt P w (n + 1) s (.ref a) := by
  intro A E Q q
  have hT : s.TypeIs (.ref a) "tuple" := ⟨o, g, c⟩
  unfold ofAClassStatement
  apply wpAny_bind
  apply wpAny_typeOf hT
  have tt : (("tuple" : String) == "tuple") = true := by decide
  simp only [tt, if_true]
  apply wpAny_bind
  apply wpAny_pure
  simp only [Bool.not_true, Bool.false_eq_true, if_false]
  apply wpAny_bind
  apply wpAny_seqItems g d
  simp only []
  apply wpAny_bind
  rw [← Array.forIn_toList]
  apply wpAny_forIn_list _ (fun l r u => r.1 = none ∧ u = s ∧ ∀ v ∈ l, OcAt P w n s v)
  · rintro v l r u ⟨hr, rfl, h⟩
    apply wpAny_bind
    apply h v List.mem_cons_self
    simp only [Bool.false_eq_true, if_false]
    apply wpAny_pure
    exact ⟨rfl, rfl, fun z hz => h z (List.mem_cons_of_mem _ hz)⟩
  · rintro ⟨r1, r2⟩ u ⟨hr, rfl, -⟩
    simp only at hr
    subst hr
    exact wpAny_pure q
  · exact ⟨rfl, rfl, all⟩
theorem HbAt.tup {n m : Nat} {s : Shared} {a : Addr} {o : Obj} {vs : Array Value} (g : s.heap.get? a = some o) (c : o.cls = .type "tuple") (d : o.data = .seq vs m) (all : ∀ v ∈ vs.toList, HbAt P w n s v) : HbAt P w (n + 1) s (.ref a) := by
  intro A E Q q
  have hT : s.TypeIs (.ref a) "tuple" := ⟨o, g, c⟩
  unfold hashByValue
  apply wpAny_bind
  apply wpAny_specialOf hT F.slot_tuple_hash.lookup
  show wpAny _ _ (seqItems? (.ref a) >>= _) _ _ s
  apply wpAny_bind
  apply wpAny_seqItems g d
  apply wpAny_bind
  show wpAny _ _ (forIn vs _ _) _ _ s
  rw [← Array.forIn_toList]
  apply wpAny_forIn_list _ (fun l r u => r.1 = none ∧ u = s ∧ ∀ v ∈ l, HbAt P w n s v)
  · rintro v l r u ⟨hr, rfl, h⟩
    apply wpAny_bind
    apply h v List.mem_cons_self
    simp only [Bool.not_true, Bool.false_eq_true, if_false]
    apply wpAny_pure
    exact ⟨rfl, rfl, fun z hz => h z (List.mem_cons_of_mem _ hz)⟩
  · rintro ⟨r1, r2⟩ u ⟨hr, rfl, -⟩
    simp only at hr
    subst hr
    exact wpAny_pure q
  · exact ⟨rfl, rfl, all⟩
mutual
theorem oc_key (s : Shared) : ∀ (k : NestedKey) (v : Value) (n : Nat), NestedIs s.heap k v → Nm k = true → k.depth ≤ n → OcAt P w n s v ∧ HbAt P w n s v
  | .none, _, _, _, b, _ => by cases b
  | .text _, _, _, _, b, _ => by cases b
  | .num i, v, n, x, _, _ => by
    cases x with
    | bool e => exact ⟨fun A E Q q => by cases n <;> exact wpAny_pure q, fun A E Q q => by cases n <;> exact wpAny_pure q⟩
    | int _ t => exact ⟨fun A E Q q => by cases n <;> exact wpAny_pure q, fun A E Q q => by cases n <;> exact wpAny_pure q⟩
  | .tup ks, _, 0, _, _, d => by simp [NestedKey.depth] at d
  | .tup ks, _, n + 1, x, b, d => by
    cases x with
    | tup g c e all =>
      simp only [NestedKey.depth] at d
      have z := oc_keys s ks _ n all b (by omega)
      exact ⟨.tup g c e fun v hv => (z v hv).1, .tup g c e fun v hv => (z v hv).2⟩
theorem oc_keys (s : Shared) : ∀ (ks : List NestedKey) (vs : List Value) (n : Nat), NestedAll s.heap ks vs → NmAll ks = true → NestedKey.depthAll ks ≤ n → ∀ v ∈ vs, OcAt P w n s v ∧ HbAt P w n s v
  | [], _, _, x, _, _, v, hv => by cases x; cases hv
  | k :: ks, _, n, x, b, d, v, hv => by
    cases x with
    | cons x1 x2 =>
      simp only [NestedKey.depthAll] at d
      simp only [NmAll, Bool.and_eq_true] at b
      rcases List.mem_cons.mp hv with rfl | hv
      · exact oc_key s k _ n x1 b.1 (by omega)
      · exact oc_keys s ks _ n x2 b.2 (by omega) v hv
end
variable {A : Around} {E : Value → Shared → Prop} {s : Shared}
theorem NK.shy {k : NestedKey} {x : Addr} {Q : Bool → Shared → Prop} (hx : NK s.heap k x) {ys : List Value} (hy : ∀ y ∈ ys, ∃ j c, y = Value.ref c ∧ NK s.heap j c) (q : Q false s) : wpAny (model P w) A (searchCouldBeSeen (.ref x) ys) Q E s := by
  unfold searchCouldBeSeen
  apply wpAny_bind
  apply wpAny_forIn_list _ (fun l r u => r.1 = none ∧ u = s ∧ ∀ y ∈ l, ∃ j c, y = Value.ref c ∧ NK s.heap j c)
  · rintro v l r u ⟨hr, rfl, h⟩
    obtain ⟨j, c, rfl, hc⟩ := h v List.mem_cons_self
    have done : ∀ y ∈ l, ∃ j c, y = Value.ref c ∧ NK u.heap j c := fun z hz => h z (List.mem_cons_of_mem _ hz)
    simp only []
    by_cases hv : (x == c || (carriedByValue (.ref x) && carriedByValue (.ref c))) = true
    · apply wp_if_pos hv
      apply wpAny_pure
      exact ⟨rfl, rfl, done⟩
    · apply wp_if_neg hv
      apply wpAny_bind
      apply quiet_key k _ 8 u hx.here hx.low
      simp only [Bool.not_true, Bool.false_eq_true, if_false]
      apply wpAny_bind
      apply quiet_key j _ 8 u hc.here hc.low
      simp only [Bool.not_true, Bool.false_eq_true, if_false]
      apply wpAny_bind
      apply (oc_key u k _ 8 hx.here hx.nums hx.low).1
      simp only [Bool.false_eq_true, if_false]
      apply wpAny_bind
      apply (oc_key u j _ 8 hc.here hc.nums hc.low).1
      simp only [Bool.false_eq_true, if_false]
      apply wpAny_pure
      exact ⟨rfl, rfl, done⟩
  · rintro ⟨r1, r2⟩ u ⟨hr, rfl, -⟩
    simp only at hr
    subst hr
    exact wpAny_pure q
  · exact ⟨rfl, rfl, hy⟩
/-- a set with the rows L -/
structure NR (w : World) (h : Heap) (a : Addr) (L : List (Addr × NestedKey)) (es : Array (Int × Value)) (ep : Nat) (t : SetTable) : Prop where
  ob : ∃ o, h.get? a = some o ∧ o.ExactSet ∧ o.data = .set es ep t
  rows : es.toList = L.map fun p => (p.2.hash w, Value.ref p.1)
  tab : TP t (L.map fun p => p.2.hash w)
  nd : (L.map (·.2)).Nodup
  key : ∀ p ∈ L, NK h p.2 p.1
  plain : t.plain = true
  led : w.params.followText "set-order" = true ∨ t.led = true
  room : L.length * 5 < t.mask * 3
  few : L.length < 4096
variable {a : Addr} {L : List (Addr × NestedKey)} {es : Array (Int × Value)} {ep : Nat} {t : SetTable} {h : Heap}
theorem NR.size (R : NR w h a L es ep t) : es.size = L.length := by
  rw [← Array.length_toList, R.rows, List.length_map]
theorem NR.fits (R : NR w h a L es ep t) : t.fits es.size = true := by
  have a1 := R.tab.len
  have a2 := R.room
  rw [List.length_map, Array.length_toList] at a1
  unfold SetTable.fits SetTable.fill
  rw [R.tab.dm, R.size, Bool.and_eq_true, beq_iff_eq, decide_eq_true_eq, a1]
  exact ⟨rfl, by show L.length + 0 ≤ _; omega⟩
theorem NR.at_ (R : NR w h a L es ep t) {i : Nat} {p : Addr × NestedKey} (e : L[i]? = some p) : es[i]? = some (p.2.hash w, Value.ref p.1) := by
  rw [← Array.getElem?_toList, R.rows, List.getElem?_map, e]
  rfl
theorem NR.stays (R : NR w h a L es ep t) : ¬ t.gaveWay = true := by
  unfold SetTable.gaveWay
  rw [R.tab.mp.big.2.2]
  decide
abbrev st0 (m : Nat) (h : Int) : SetTable.Probe := runAt m (SetTable.bits h % (m + 1)) (SetTable.bits h)
theorem no_dummy (m : Nat) : ∀ (n : Nat) (p : SetTable.Probe), p.dummy = none → (nth m p n).dummy = none
  | 0, _, h => h
  | n + 1, p, h => no_dummy m n (adv m p) (by unfold adv; split <;> exact h)
theorem NR.look (R : NR w s.heap a L es ep t) {x : Addr} {k : NestedKey} (hx : NK s.heap k x) (hu : A.units + 8 < cLine) {K : Nat} (kf : K < 10 * SetTable.turns t.mask)
    (k1 : way t.mask (k.hash w) K ∉ t.place.toList) (k2 : ∀ c, c < K → way t.mask (k.hash w) c ∈ t.place.toList) {Q : SetFound → Shared → Prop}
    (yes : k ∈ L.map (·.2) → Q (.there none) s) (no : k ∉ L.map (·.2) → Q (.free (way t.mask (k.hash w) K) false) s) :
    ∀ (f c : Nat) (from_ : Option SetTable.Probe), from_.getD (t.probeStart (k.hash w)) = nth t.mask (st0 t.mask (k.hash w)) c → c ≤ K → K - c < f →
      (∀ (i : Nat) p, L[i]? = some p → p.2 = k → ∃ d, c ≤ d ∧ d < K ∧ t.place.toList[i]? = some (way t.mask (k.hash w) d)) →
      wpAny (model P w) A (setSearchFrom a (.ref x) (k.hash w) true f from_) Q E s
  | 0, _, _, _, _, hf, _ => absurd hf (Nat.not_lt_zero _)
  | f + 1, c, from_, e0, hc, hf, ahead => by
    obtain ⟨o, ho, hex, hd⟩ := R.ob
    have T := R.tab
    rw [setSearchFrom_succ]
    apply wpAny_bind
    apply wpAny_setState_of ho hd R.fits
    apply wp_if_neg R.stays
    have sum : ∀ q, nth t.mask (nth t.mask (st0 t.mask (k.hash w)) c) q = nth t.mask (st0 t.mask (k.hash w)) (c + q) := fun q => (nth_add t.mask c _ q).symm
    have sumj : ∀ q, (nth t.mask (nth t.mask (st0 t.mask (k.hash w)) c) q).j = way t.mask (k.hash w) (c + q) := fun q => congrArg SetTable.Probe.j (sum q)
    have hash_at : ∀ (i : Nat) p, L[i]? = some p → (es[i]?.map (·.1)).getD 0 = p.2.hash w := fun i p hp => by
      rw [R.at_ hp]
      rfl
    rcases go_spec t T.ris T.dm (fun i => (es[i]?.map (·.1)).getD 0) (k.hash w) (10 * SetTable.turns t.mask) (K - c) _ (no_dummy t.mask c _ rfl) (by omega)
      (fun q hq => by rw [sumj]; exact k2 (c + q) (by omega)) (by rw [sumj, show c + (K - c) = K by omega]; exact k1) with ⟨q, i, hq, hi, hh, hno, pr⟩ | ⟨hno, pr⟩
    · have pr : t.probe (fun i => (es[i]?.map (·.1)).getD 0) (k.hash w) (from_.getD (t.probeStart (k.hash w))) = some (.candidate (way t.mask (k.hash w) (c + q)) i (nth t.mask (st0 t.mask (k.hash w)) (c + (q + 1)))) := by
        rw [e0, ← sumj, ← sum]
        exact pr
      rw [pr]
      rw [sumj] at hi
      have il : i < L.length := by
        have z1 := (List.getElem?_eq_some_iff.mp hi).1
        have z2 := T.len
        rw [List.length_map] at z2
        omega
      obtain ⟨p, hp⟩ : ∃ p, L[i]? = some p := ⟨_, List.getElem?_eq_getElem il⟩
      have pm := List.mem_of_getElem? hp
      have rest : wpAny (model P w) A (searchRest a (.ref x) (k.hash w) true f es t (way t.mask (k.hash w) (c + q)) i (nth t.mask (st0 t.mask (k.hash w)) (c + (q + 1)))) Q E s := by
        unfold searchRest
        rw [R.at_ hp]
        simp only []
        apply wpAny_bind
        apply wpAny_holding
        apply (nestedKind P w).eqBool (x := p.2) (y := k) hu ⟨(R.key p pm).here, (R.key p pm).low⟩ ⟨hx.here, hx.low⟩
        apply wpAny_bind
        apply wpAny_setState_of ho hd R.fits
        by_cases ek : p.2 = k
        · apply wp_if_pos (by simp [ek])
          apply wpAny_pure
          exact yes (List.mem_map.mpr ⟨p, pm, ek⟩)
        · apply wp_if_neg (by simp [ek])
          rw [sameMem]
          have live : t.slot (way t.mask (k.hash w) (c + q)) = .live i := slot_live T.ris hi
          simp only [if_true, live, R.at_ hp]
          apply wpAny_bind
          apply wpAny_isSame_ref_self
          apply wpAny_bind
          apply wpAny_pure
          simp only [if_true]
          apply wp_if_neg (by simp [ek])
          refine NR.look R hx hu kf k1 k2 yes no f (c + (q + 1)) _ rfl (by omega) (by omega) fun i2 p2 h2 e2 => ?_
          obtain ⟨d, d1, d2, d3⟩ := ahead i2 p2 h2 e2
          refine ⟨d, Classical.byContradiction fun z => ?_, d2, d3⟩
          rcases Nat.lt_or_ge d (c + q) with lt | ge
          · refine hno (d - c) i2 (by omega) (by rw [sumj, show c + (d - c) = d by omega]; exact d3) ?_
            rw [hash_at i2 p2 h2, e2]
          · obtain rfl : d = c + q := by omega
            have z2 := slot_live T.ris d3
            rw [live] at z2
            cases z2
            rw [hp] at h2
            cases h2
            exact ek e2
      by_cases hl : t.led = true
      · apply wp_if_neg (by simp [hl])
        exact rest
      · apply wp_if_pos (by simp [hl])
        apply wpAny_bind
        refine hx.shy (fun y hy => ?_) ?_
        · obtain ⟨e, he, rfl⟩ := List.mem_map.mp hy
          have he : e ∈ es.toList := by
            have z : e ∈ es ∧ e.1 = k.hash w := by simpa using he
            simpa using z.1
          rw [R.rows] at he
          obtain ⟨p2, m2, rfl⟩ := List.mem_map.mp he
          exact ⟨_, _, rfl, R.key p2 m2⟩
        · apply wp_if_neg (by decide)
          exact rest
    · have pr : t.probe (fun i => (es[i]?.map (·.1)).getD 0) (k.hash w) (from_.getD (t.probeStart (k.hash w))) = some (.empty (way t.mask (k.hash w) K) none) := by
        have z := sumj (K - c)
        rw [show c + (K - c) = K by omega] at z
        rw [e0, ← z]
        exact pr
      rw [pr]
      apply wpAny_pure
      refine no fun hm => ?_
      obtain ⟨p0, m0, e0⟩ := List.mem_map.mp hm
      obtain ⟨i0, l0, g0⟩ := List.getElem_of_mem m0
      have h0 : L[i0]? = some p0 := by rw [List.getElem?_eq_getElem l0, g0]
      obtain ⟨d, d1, d2, d3⟩ := ahead i0 p0 h0 e0
      refine hno (d - c) i0 (by omega) (by rw [sumj, show c + (d - c) = d by omega]; exact d3) ?_
      rw [hash_at i0 p0 h0, e0]
theorem NR.find (R : NR w s.heap a L es ep t) {x : Addr} {k : NestedKey} (hx : NK s.heap k x) (hu : A.units + 8 < cLine) {Q : SetFound → Shared → Prop} (yes : k ∈ L.map (·.2) → Q (.there none) s)
    (no : ∀ K, k ∉ L.map (·.2) → way t.mask (k.hash w) K ∉ t.place.toList → (∀ c, c < K → way t.mask (k.hash w) c ∈ t.place.toList) → Q (.free (way t.mask (k.hash w) K) false) s) : wpAny (model P w) A (setSearch a (.ref x) (k.hash w) true) Q E s := by
  have rm := R.room
  have T := R.tab
  obtain ⟨K, kf, k1, k2⟩ := T.gap (by rw [List.length_map]; omega) (k.hash w)
  have big : K < 100000 := by
    have z := T.mp.big.2.1
    unfold SetTable.turns at kf
    omega
  unfold setSearch
  refine NR.look R hx hu kf k1 k2 yes (fun z => no K z k1 k2) 100000 0 none rfl (Nat.zero_le _) (by omega) fun i p hp e => ?_
  have il : i < t.place.toList.length := by
    rw [T.len, List.length_map]
    exact (List.getElem?_eq_some_iff.mp hp).1
  have hj := List.getElem?_eq_getElem il
  obtain ⟨c, c1, c2⟩ := T.met k1 hj (by rw [List.getElem?_map, hp, ← e]; rfl)
  exact ⟨c, Nat.zero_le _, c1, by rw [hj, c2]⟩
end
end DN
/-! DN3: sets of nested tuples of numbers: adding. -/
namespace DN
open PySem PySem.Spec PyProof.Rows L2
theorem NK.keep {h h' : Heap} {k : NestedKey} {b : Addr} (x : NK h k b) (up : ∀ c o, h.get? c = some o → h'.get? c = some o) : NK h' k b := ⟨NestedIs.at (fun c o _ _ e _ => up c o e) k _ x.here, x.nums, x.low⟩
theorem NK.beside {h h' : Heap} {k : NestedKey} {a b : Addr} {o : Obj} {es : Array (Int × Value)} {ep : Nat} {t : SetTable} (x : NK h k b) (ho : h.get? a = some o) (hd : o.data = .set es ep t) (sb : Heap.SameBut a h h') : NK h' k b := by
  refine ⟨NestedIs.at (fun c u vs n e d => ?_) k _ x.here, x.nums, x.low⟩
  rw [sb.2 c fun z => ?_]
  · exact e
  · subst z
    rw [ho] at e
    cases e
    rw [hd] at d
    cases d
section
variable {P : Program} {w : World} {A : Around} {E : Value → Shared → Prop} {s : Shared}
abbrev rowN (w : World) (p : Addr × NestedKey) : Int × Value := (p.2.hash w, Value.ref p.1)
theorem pick_rows {α : Type} (L : List α) (f : α → Int × Value) (es : Array (Int × Value)) (hr : es.toList = L.map f) : ∀ l : List Nat, (∀ i ∈ l, i < L.length) →
    l.filterMap (fun i => es[i]?) = (l.filterMap fun i => L[i]?).map f ∧ ((l.filterMap fun i => L[i]?).map fun p => (f p).1) = l.map fun i => (es.map (·.1)).getD i 0
  | [], _ => ⟨rfl, rfl⟩
  | i :: l, h => by
    have hi := h i List.mem_cons_self
    obtain ⟨e1, e2⟩ := pick_rows L f es hr l fun j hj => h j (List.mem_cons_of_mem _ hj)
    have g : es[i]? = some (f L[i]) := by rw [← Array.getElem?_toList, hr, List.getElem?_map, List.getElem?_eq_getElem hi]; rfl
    have g2 : (es.map (·.1)).getD i 0 = (f L[i]).1 := by rw [Array.getD_eq_getD_getElem?, Array.getElem?_map, g]; rfl
    rw [List.filterMap_cons_some g, List.filterMap_cons_some (List.getElem?_eq_getElem hi), e1, List.map_cons, List.map_cons, List.map_cons, e2, g2]
    exact ⟨rfl, rfl⟩
theorem pick_all {α : Type} (L : List α) : (List.range L.length).filterMap (fun i => L[i]?) = L := by
  induction L with
  | nil => rfl
  | cons x l ih =>
    rw [List.length_cons, List.range_succ_eq_map, List.filterMap_cons_some (List.getElem?_cons_zero), List.filterMap_map]
    congr 1
variable {a : Addr} {L : List (Addr × NestedKey)} {es : Array (Int × Value)} {ep : Nat} {t : SetTable}
theorem relayN {o : Obj} (ho : s.heap.get? a = some o) (hex : o.ExactSet) (hd : o.data = .set es ep t) (rows : es.toList = L.map (rowN w)) (ln : t.place.toList.length = L.length) (dm : t.dummies = #[]) (fl : L.length ≤ t.mask)
    (nd : (L.map (·.2)).Nodup) (key : ∀ p ∈ L, NK s.heap p.2 p.1) (pl : t.plain = true) (ld : w.params.followText "set-order" = true ∨ t.led = true) (few : L.length < 4096) {wanted M : Nat}
    (hw : SetTable.sizeAbove wanted - 1 = M) (hM : MP M) (h2 : SetTable.sizeAbove wanted ≤ 8192) (rm : L.length * 5 < M * 3) {Q : Unit → Shared → Prop}
    (q : ∀ h' L' es' ep' t', Heap.SameBut a s.heap h' → NR w h' a L' es' ep' t' → L'.Perm L → Q () { s with heap := h' }) : wpAny (model P w) A (setRelay a wanted) Q E s := by
  have sz : es.size = L.length := by rw [← Array.length_toList, rows, List.length_map]
  have fits : t.fits es.size = true := by
    rw [Array.length_toList] at ln
    unfold SetTable.fits SetTable.fill
    rw [dm, sz, ln, Bool.and_eq_true, beq_iff_eq, decide_eq_true_eq]
    exact ⟨rfl, by show L.length + 0 ≤ _; omega⟩
  obtain ⟨t', order, e, pm, T, em, el, epl⟩ := laid_again t (hs := es.map (·.1)) (wanted := wanted) hw hM (by rw [Array.size_map, sz]; omega)
  rw [Array.size_map, sz] at pm
  obtain ⟨r1, r2⟩ := pick_rows L (rowN w) es rows order.toList fun i hi => List.mem_range.mp (pm.mem_iff.mp hi)
  have pL : (order.toList.filterMap fun i => L[i]?).Perm L := by
    have z := pm.filterMap fun i => L[i]?
    rwa [pick_all] at z
  rw [← r2] at T
  have r3 : (order.filterMap (es[·]?)).toList = (order.toList.filterMap fun i => L[i]?).map (rowN w) := by rw [Array.toList_filterMap]; exact r1
  generalize (order.toList.filterMap fun i => L[i]?) = L2 at *
  have s2 : (order.filterMap (es[·]?)).size = es.size := by rw [← Array.length_toList, r3, List.length_map, pL.length_eq, sz]
  rw [setRelay_eq]
  apply wpAny_bind
  apply wpAny_setState_of ho hd fits
  apply wp_if_neg (by rw [sizeLine_eq]; omega)
  rw [e]
  apply wpAny_bind
  apply wp_if_neg (by rw [s2]; simp)
  apply wpAny_pure
  apply wpAny_storeSet_of ho hd ?_ (by rw [s2, sz, sizeLine_eq]; omega)
  have sb : Heap.SameBut a s.heap (s.heap.update a (Obj.putSet (order.filterMap (es[·]?)) t')) := Heap.SameBut.update ..
  refine q _ L2 _ (ep + 1) t' sb ⟨⟨_, store_at ho hd, ⟨hex.1, hex.2.1, hex.2.2⟩, rfl⟩, r3, T, (pL.map (·.2)).nodup_iff.mpr nd, fun p hp => (key p (pL.mem_iff.mp hp)).beside ho hd sb, ?_, ?_, ?_, ?_⟩ pL
  · rw [epl, pl]
  · rw [el]; exact ld
  · rw [pL.length_eq, em]; exact rm
  · rw [pL.length_eq]; exact few
theorem grow_to : SetTable.sizeAbove (SetTable.grown 5) = 32 ∧ SetTable.sizeAbove (SetTable.grown 19) = 128 ∧ SetTable.sizeAbove (SetTable.grown 77) = 512 ∧ SetTable.sizeAbove (SetTable.grown 307) = 2048 ∧ SetTable.sizeAbove (SetTable.grown 1229) = 8192 := by decide +kernel
theorem grow_next {m n : Nat} (hm : MP m) (room : n * 5 < m * 3) (full : (n + 1) * 5 ≥ m * 3) (few : n + 1 < 4096) : ∃ M, MP M ∧ SetTable.sizeAbove (SetTable.grown (n + 1)) - 1 = M ∧ SetTable.sizeAbove (SetTable.grown (n + 1)) ≤ 8192 ∧ (n + 1) * 5 < M * 3 ∧ n + 1 ≤ m := by
  obtain ⟨g1, g2, g3, g4, g5⟩ := grow_to
  rcases hm with rfl | rfl | rfl | rfl | rfl | rfl
  · obtain rfl : n = 4 := by omega
    exact ⟨31, by unfold MP; omega, by rw [g1], by rw [g1]; decide, by decide, by decide⟩
  · obtain rfl : n = 18 := by omega
    exact ⟨127, by unfold MP; omega, by rw [g2], by rw [g2]; decide, by decide, by decide⟩
  · obtain rfl : n = 76 := by omega
    exact ⟨511, by unfold MP; omega, by rw [g3], by rw [g3]; decide, by decide, by decide⟩
  · obtain rfl : n = 306 := by omega
    exact ⟨2047, by unfold MP; omega, by rw [g4], by rw [g4]; decide, by decide, by decide⟩
  · obtain rfl : n = 1228 := by omega
    exact ⟨8191, by unfold MP; omega, by rw [g5], by rw [g5]; decide, by decide, by decide⟩
  · omega
theorem NR.add (R : NR w s.heap a L es ep t) {x : Addr} {k : NestedKey} (hx : NK s.heap k x) (hu : A.units + 8 < cLine) (few : L.length + 1 < 4096) {Q : Bool → Shared → Prop}
    (q : ∀ b h' L' es' ep' t', Heap.SameBut a s.heap h' → NR w h' a L' es' ep' t' → (k ∈ L.map (·.2) → L' = L) → (k ∉ L.map (·.2) → L'.Perm ((x, k) :: L)) → Q b { s with heap := h' }) :
    wpAny (model P w) A (setAddHashed a (.ref x) (k.hash w)) Q E s := by
  obtain ⟨o, ho, hex, hd⟩ := R.ob
  have rm := R.room
  unfold setAddHashed
  apply wpAny_holding
  rw [show (100000 : Nat) = 99999 + 1 from rfl, setAddHashedIn_succ]
  apply wpAny_bind
  apply wpAny_setState_of ho hd R.fits
  apply wp_if_neg (by simp [byScan, Value.scannable])
  apply wpAny_bind
  refine R.find hx hu (fun hm => ?_) fun K hm k1 k2 => ?_
  · apply wpAny_pure
    exact q false s.heap L es ep t (Heap.SameBut.refl a s.heap) R (fun _ => rfl) fun z => absurd hm z
  apply wpAny_bind
  apply wpAny_setState_of ho hd R.fits
  generalize ep0 : SetTable.below t.place (way t.mask (k.hash w) K) = p
  obtain ⟨pl, T1, fl1⟩ := R.tab.more k1 k2 ep0
  have eput : t.put (way t.mask (k.hash w) K) = ((t.put (way t.mask (k.hash w) K)).1, p) := by rw [← ep0]; rfl
  have m1 : (t.put (way t.mask (k.hash w) K)).1.mask = t.mask := rfl
  have n1 : (t.put (way t.mask (k.hash w) K)).1.plain = true := R.plain
  have l1 : w.params.followText "set-order" = true ∨ (t.put (way t.mask (k.hash w) K)).1.led = true := R.led
  simp only []
  rw [eput]
  generalize (t.put (way t.mask (k.hash w) K)).1 = t1 at *
  rw [List.length_map] at pl fl1
  simp only []
  first
    | (apply wpAny_bind; apply wp_if_pos n1; apply (oc_key s k _ 8 hx.here hx.nums hx.low).2)
    | (apply wp_if_pos n1; apply wpAny_bind; apply (oc_key s k _ 8 hx.here hx.nums hx.low).2)
  simp only [if_true]
  have pm := put_perm L p (x, k)
  have rows1 : (SetTable.insertAt es p (k.hash w, Value.ref x)).toList = (L.take p ++ (x, k) :: L.drop p).map (rowN w) := by
    rw [SetTable.toList_insertAt, R.rows, List.map_append, List.map_cons, List.map_take, List.map_drop]
  have T1 : TP t1 ((L.take p ++ (x, k) :: L.drop p).map fun p => p.2.hash w) := by
    rw [List.map_append, List.map_cons, List.map_take, List.map_drop]
    exact T1
  generalize L.take p ++ (x, k) :: L.drop p = L1 at *
  have ln1 : L1.length = L.length + 1 := pm.length_eq
  have sz1 : (SetTable.insertAt es p (k.hash w, Value.ref x)).size = L.length + 1 := by rw [← Array.length_toList, rows1, List.length_map, ln1]
  generalize SetTable.insertAt es p (k.hash w, Value.ref x) = es1 at *
  have nd1 : (L1.map (·.2)).Nodup := by
    refine (pm.map (·.2)).nodup_iff.mpr ?_
    rw [List.map_cons]
    exact List.nodup_cons.mpr ⟨hm, R.nd⟩
  apply wpAny_bind
  apply wpAny_storeSet_of ho hd ?_ (by rw [sz1, sizeLine_eq]; omega)
  have sb : Heap.SameBut a s.heap (s.heap.update a (Obj.putSet es1 t1)) := Heap.SameBut.update ..
  have ho1 := store_at (es' := es1) (t' := t1) ho hd
  generalize s.heap.update a (Obj.putSet es1 t1) = h1 at sb ho1
  have key1 : ∀ p ∈ L1, NK h1 p.2 p.1 := fun p hp => by
    rcases List.mem_cons.mp (pm.mem_iff.mp hp) with rfl | hp
    · exact hx.beside ho hd sb
    · exact (R.key p hp).beside ho hd sb
  have full : t1.tooFull = decide ((L.length + 1) * 5 ≥ t.mask * 3) := by
    unfold SetTable.tooFull
    rw [fl1, m1]
  by_cases hf : (L.length + 1) * 5 ≥ t.mask * 3
  · obtain ⟨M, hM, g1, g2, g3, g4⟩ := grow_next R.tab.mp rm hf few
    have go : wpAny (model P w) A (setRelay a (SetTable.grown (es.size + 1))) (fun _ s' => wpAny (model P w) A (pure true) Q E s') E { s with heap := h1 } := by
      rw [R.size]
      refine relayN (s := { s with heap := h1 }) ho1 ⟨hex.1, hex.2.1, hex.2.2⟩ rfl rows1 (by rw [T1.len, List.length_map]) T1.dm (by rw [ln1, m1]; exact g4) nd1 key1 n1 l1 (by omega) g1 hM g2 (by rw [ln1]; exact g3) ?_
      intro h2 L2 es2 ep2 t2 sb2 R2 pm2
      apply wpAny_pure
      exact q true h2 L2 es2 ep2 t2 (sb.trans sb2) R2 (fun z => absurd z hm) fun _ => pm2.trans pm
    first
      | (apply wpAny_bind; apply wp_if_pos (by simp [full, hf]); exact go)
      | (apply wp_if_pos (by simp [full, hf]); apply wpAny_bind; exact go)
  · have fin : Q true { s with heap := h1 } := q true h1 L1 es1 (ep + 1) t1 sb ⟨⟨_, ho1, ⟨hex.1, hex.2.1, hex.2.2⟩, rfl⟩, rows1, T1, nd1, key1, n1, l1, by rw [ln1, m1]; omega, by omega⟩ (fun z => absurd z hm) fun _ => pm
    first
      | (apply wp_if_neg (by simp [full, hf]); exact wpAny_pure fin)
      | (apply wpAny_bind; apply wp_if_neg (by simp [full, hf]); exact wpAny_pure (wpAny_pure fin))
end
/-- what a set has of the first i items -/
structure Has (ks : List (Addr × NestedKey)) (i : Nat) (L : List (Addr × NestedKey)) : Prop where
  len : L.length ≤ i
  sub : ∀ p ∈ L, p ∈ ks.take i
  all : ∀ p ∈ ks.take i, p.2 ∈ L.map (·.2)
theorem Has.next {ks L L' : List (Addr × NestedKey)} {i : Nat} {x : Addr × NestedKey} (g : Has ks i L) (hx : ks[i]? = some x) (c1 : x.2 ∈ L.map (·.2) → L' = L) (c2 : x.2 ∉ L.map (·.2) → L'.Perm (x :: L)) : Has ks (i + 1) L' := by
  have tk : ks.take (i + 1) = ks.take i ++ [x] := by rw [List.take_succ, hx]; rfl
  by_cases c : x.2 ∈ L.map (·.2)
  · obtain rfl := c1 c
    refine ⟨Nat.le_succ_of_le g.len, fun p hp => by rw [tk]; exact List.mem_append_left _ (g.sub p hp), fun p hp => ?_⟩
    rw [tk, List.mem_append, List.mem_singleton] at hp
    rcases hp with hp | rfl
    · exact g.all p hp
    · exact c
  · have pm := c2 c
    refine ⟨by rw [pm.length_eq, List.length_cons]; exact Nat.succ_le_succ g.len, fun p hp => ?_, fun p hp => ?_⟩
    · rw [tk, List.mem_append, List.mem_singleton]
      rcases List.mem_cons.mp (pm.mem_iff.mp hp) with e | e
      · exact .inr e
      · exact .inl (g.sub p e)
    · rw [(pm.map (·.2)).mem_iff, List.map_cons, List.mem_cons]
      rw [tk, List.mem_append, List.mem_singleton] at hp
      rcases hp with hp | rfl
      · exact .inr (g.all p hp)
      · exact .inl rfl
section
variable {P : Program} {w : World} {A : Around} {E : Value → Shared → Prop} {s : Shared}
theorem NR.kept {h h' : Heap} {a : Addr} {L : List (Addr × NestedKey)} {es : Array (Int × Value)} {ep : Nat} {t : SetTable} (R : NR w h a L es ep t) (ha : ∀ o, h.get? a = some o → h'.get? a = some o) (hk : ∀ p ∈ L, NK h' p.2 p.1) : NR w h' a L es ep t := by
  obtain ⟨o, ho, r⟩ := R.ob
  exact ⟨⟨o, ha o ho, r⟩, R.rows, R.tab, R.nd, hk, R.plain, R.led, R.room, R.few⟩
theorem NR.new {h : Heap} {a : Addr} (ho : h.get? a = some (DL.oSet w)) : NR w h a [] #[] 0 (.fresh 0 0 (!w.params.followText "set-order")) where
  ob := ⟨_, ho, ⟨rfl, rfl, rfl⟩, rfl⟩
  rows := rfl
  tab := ⟨.inl rfl, .nil, rfl, rfl, fun x hx => (by cases hx), fun i j h hi => (by simp [SetTable.fresh] at hi)⟩
  nd := .nil
  key := fun p hp => (by cases hp)
  plain := rfl
  led := by
    show _ ∨ (!w.params.followText "set-order") = true
    cases w.params.followText "set-order" <;> simp
  room := by
    show 0 * 5 < 7 * 3
    decide
  few := by
    show 0 < 4096
    decide
/-- the loop of set.update -/
theorem updateN {I : Addr} {fp wr : List Addr} {G : Array GenState → Array GenState → Prop} {n : Nat} {Pv : Nat → Value → Prop} {St : Nat → Shared → Prop} {R : Result → Shared → Prop}
    (W : WalksS P w A.in1 I fp wr G n Pv St) (S : Addr) (nf : S ∉ fp) (ks : List (Addr × NestedKey)) (en : n = ks.length) (few : ks.length < 4096) (val : ∀ i v, Pv i v → ∃ p, ks[i]? = some p ∧ v = .ref p.1)
    (h0 : Heap) (key : ∀ p ∈ ks, NK h0 p.2 p.1) (S0 : h0.get? S = none) (w0 : ∀ b ∈ wr, h0.get? b = none) (hu : A.in1.units + 8 < cLine) :
    ∀ (k i : Nat) (s : Shared), n - i = k → i ≤ n → St i s → (∀ b o, h0.get? b = some o → s.heap.get? b = some o) → (∃ L es ep t, NR w s.heap S L es ep t ∧ Has ks i L) →
      (∀ s' L es ep t, Moved (S :: wr) G s s' → NR w s'.heap S L es ep t → Has ks n L → (∀ b o, h0.get? b = some o → s'.heap.get? b = some o) → R (.ok (.ret .none)) s') →
      codeAny (model P w) A (.builtin "set.update.loop" ⟨[.ref S, .ref I], []⟩) R s := by
  have nw : S ∉ wr := fun z => nf (W.sub _ z)
  have more : ∀ b ∈ wr, b ∈ S :: wr := fun b => List.mem_cons_of_mem _
  have carry : ∀ {s s' : Shared}, Moved wr G s s' → (∀ b o, h0.get? b = some o → s.heap.get? b = some o) → ∀ b o, h0.get? b = some o → s'.heap.get? b = some o := fun m up b o e => by
    refine m.heap b o (fun z => ?_) (up b o e)
    rw [w0 b z] at e
    cases e
  intro k
  induction k with
  | zero =>
    intro i s hk hi st up ⟨L, es, ep, t, N, g⟩ fin
    obtain rfl : i = n := by omega
    apply codeAny_builtin F.entry_set_update_loop
    rw [Around.under_plainId F.plain_set_update_loop _]
    show wpAny _ A.in1 (pyNext (.ref I) >>= _) _ _ s
    apply wpAny_bind
    apply W.done s _ _ st
    intro s' m
    show wpAny _ A.in1 (ret Value.none) _ _ s'
    have up' := carry m up
    apply wpAny_pure
    exact fin s' L es ep t (m.mono more) (N.kept (fun o => m.heap S o nw) fun p hp => (key p (List.mem_of_mem_take (g.sub p hp))).keep up') g up'
  | succ k ih =>
    intro i s hk hi st up ⟨L, es, ep, t, N, g⟩ fin
    have lt : i < n := by omega
    apply codeAny_builtin F.entry_set_update_loop
    rw [Around.under_plainId F.plain_set_update_loop _]
    show wpAny _ A.in1 (pyNext (.ref I) >>= _) _ _ s
    apply wpAny_bind
    apply W.item i s _ _ lt st
    intro v s' hP st' m
    obtain ⟨p, hp, rfl⟩ := val i v hP
    have up' := carry m up
    have N' : NR w s'.heap S L es ep t := N.kept (fun o => m.heap S o nw) fun p hp => (key p (List.mem_of_mem_take (g.sub p hp))).keep up'
    have hx : NK s'.heap p.2 p.1 := (key p (List.mem_of_getElem? hp)).keep up'
    show wpAny _ A.in1 (holding [Value.ref p.1] (setAdd S (.ref p.1)) >>= _) _ _ s'
    apply wpAny_bind
    apply wpAny_holding
    unfold setAdd
    apply wpAny_holding
    apply wpAny_bind
    apply (nestedKind P w).pyHash hu ⟨hx.here, hx.low⟩
    have gl := g.len
    refine NR.add (s := { s' with toks := s'.toks + p.2.draws }) N' hx hu (by omega) fun b h' L' es' ep' t' sb N2 c1 c2 => ?_
    have g' := g.next hp c1 c2
    have up2 : ∀ b o, h0.get? b = some o → h'.get? b = some o := fun b o e => by
      rw [sb.2 b fun z => by rw [z, S0] at e; cases e]
      exact up' b o e
    apply wpAny_pure
    refine ⟨plainId_quiet F.plain_set_update_loop _, ih (i + 1) _ (by omega) lt (W.frame _ s' _ _ st' (Nat.le_add_right _ _) fun b hb o e => ?_) up2 ⟨L', es', ep', t', N2, g'⟩ fun s'' L2 es2 ep2 t2 m2 N3 g3 up3 => ?_⟩
    · rw [sb.2 b fun z => nf (by rw [← z]; exact hb)]
      exact e
    · refine fin s'' L2 es2 ep2 t2 (Moved.trans W.gtrans ((m.mono more).then_heap (Nat.le_add_right _ _) fun b o hb e => ?_) m2) N3 g3 up3
      rw [sb.2 b fun z => hb (by rw [z]; exact List.mem_cons_self)]
      exact e
end
end DN
/-! DN4: sorting tuples, the empty one among them. -/
namespace DN
open PySem PySem.Spec PySem.W PySem.SeqAt PyProof.Rows L2
section
variable {prog : Program} {w : World} {A : Around} {E : Value → Shared → Prop} {s : Shared}
theorem call_tup_lt {Q : Value → Shared → Prop} {l b : Addr} {xs ys : Array Value} {e r : Nat → Bool} (hl : s.heap.IsTuple l xs) (hb : s.heap.IsTuple b ys)
    (he : ∀ j (h1 : j < xs.size) (h2 : j < ys.size), EqAt A.in1 s xs[j] ys[j] (e j)) (hr : ∀ j (h1 : j < xs.size) (h2 : j < ys.size), e j = false → RcLt A.in1 s xs[j] ys[j] (r j))
    (q : Q (.bool (firstLt e r (decide (xs.size < ys.size)) (List.range (min xs.size ys.size)))) s) : wpAny (model prog w) A (call (.builtin "tuple.__lt__") [.ref l, .ref b]) Q E s := by
  obtain ⟨⟨c1, d1, t1, s1⟩, o1, k1, n1, z1⟩ := id hl
  obtain ⟨⟨c2, d2, t2, s2⟩, o2, k2, n2, z2⟩ := id hb
  simp only at k1 z1 k2 z2
  subst k1 z1 k2 z2
  exact call_meets F.slot_tuple_lt ⟨_, o1, rfl⟩ F.entry_tuple_lt (F.args_tuple_lt_2 _ _) (tuple_ltAt l b xs ys n1 n2 d1 d2 s1 s2 e r) ⟨o1, o2, he, hr, q⟩
theorem oneLt_tup {xs ys : List PyData} {a b : Value} {as bs : List Addr} {Q : Bool → Shared → Prop} (ra : Reads s.heap a (.tuple xs) as) (rb : Reads s.heap b (.tuple ys) bs) (al : alikeAll xs ys = true) (hu : A.units + min (PyData.tuple xs).depth (PyData.tuple ys).depth < cLine)
    (q : Q (dataLt (.tuple xs) (.tuple ys)) s) : wpAny (model prog w) A (oneLt' true a b) Q E s := by
  cases ra with
  | @tuple l o vs n _ _ h1 h2 h3 h4 =>
    cases rb with
    | @tuple l' o' vs' n' _ _ k1 k2 k3 k4 =>
      have n1 : vs.size = xs.length := by simpa using ReadsAll.length _ _ _ h4
      have n2 : vs'.size = ys.length := by simpa using ReadsAll.length _ _ _ k4
      rw [dataLt_tuple, ← firstLt_toks xs ys al, ← n1, ← n2] at q
      have hT : s.TypeIs (.ref l) "tuple" := ⟨_, h1, h2⟩
      rw [oneLt'_eq]
      simp only [if_true]
      apply wpAny_bind
      apply wpAny_cRoomFor (room_here hu)
      apply wpAny_bind
      apply wpAny_callSpecialIfBound?_slot hT F.slot_tuple_lt
      refine call_tup_lt (e := pairEq xs ys) (r := fun j => dataLt (xs.getD j .none) (ys.getD j .none)) ⟨_, h1, h2, _, h3⟩ ⟨_, k1, k2, _, k3⟩ (fun j j1 j2 => ?_) (fun j j1 j2 hj => ?_) (wpAny_truthy_bool q)
      · have z1 : j < vs.toList.length := by simpa using j1
        have z2 : j < vs'.toList.length := by simpa using j2
        have z := eqAt_alikeAll xs ys A.in1 s vs.toList vs'.toList _ _ h4 k4 al (room_in hu) j z1 z2
        rwa [Array.getElem_toList, Array.getElem_toList] at z
      · have z1 : j < vs.toList.length := by simpa using j1
        have z2 : j < vs'.toList.length := by simpa using j2
        have z := rcLt_alikeAll xs ys A.in1 s vs.toList vs'.toList _ _ h4 k4 al (room_in hu) j z1 z2 hj
        rwa [Array.getElem_toList, Array.getElem_toList] at z
/-- a tuple with an item -/
def neT : PyData → Bool
  | .tuple (_ :: _) => true
  | _ => false
theorem firsts_of : ∀ {vs : List Value} {ds : List PyData}, EachIs (fun v d => ∃ as, Reads s.heap v d as) vs ds → (∀ d ∈ ds, ∃ xs, d = .tuple xs) →
    ∃ fs : List (Option Value), fs.map (·.isSome) = ds.map neT ∧ ∀ (E : Value → Shared → Prop) (Q : List (Option Value) → Shared → Prop), Q fs s → wpAny (model prog w) A (vs.mapM firstOfTuple') Q E s
  | _, _, .nil, _ => ⟨[], rfl, fun E Q q => by rw [List.mapM_nil]; exact wpAny_pure q⟩
  | _, _, .cons (b := d) ⟨as, r⟩ t, ht => by
    obtain ⟨fs, e1, e2⟩ := firsts_of t fun z hz => ht z (List.mem_cons_of_mem _ hz)
    obtain ⟨xs, rfl⟩ := ht d List.mem_cons_self
    cases r with
    | @tuple a o vs n _ _ h1 h2 h3 h4 =>
      refine ⟨vs[0]? :: fs, ?_, fun E Q q => ?_⟩
      · rw [List.map_cons, List.map_cons, e1]
        congr 1
        cases xs with
        | nil =>
          have z : vs.toList = [] := by
            generalize vs.toList = l at h4
            cases h4
            rfl
          rw [← Array.getElem?_toList, z]
          rfl
        | cons x xs =>
          obtain ⟨f, fr, z⟩ : ∃ f fr, vs.toList = f :: fr := by
            generalize vs.toList = l at h4
            cases h4 with
            | cons _ _ => exact ⟨_, _, rfl⟩
          rw [← Array.getElem?_toList, z]
          rfl
      · rw [List.mapM_cons]
        apply wpAny_bind
        rw [kas_first_eq]
        apply wpAny_bind
        refine Looks.here (show Looks (model prog w) s.heap (typeOf (.ref a)) o.cls from (Looks.ld h1).andThen .now) ?_
        rw [h2, if_neg (by simp)]
        apply wpAny_bind
        apply listItems_at h1 h3
        apply wpAny_pure
        apply wpAny_bind
        apply e2
        exact wpAny_pure q
/-- tuples that are alike can be sorted, the empty one among them -/
theorem sorts_tups {vs : List Value} {ds : List PyData} (e : EachIs (fun v d => ∃ as, Reads s.heap v d as) vs ds) (al : AllAlike ds) (ht : ∀ d ∈ ds, ∃ xs, d = .tuple xs) (hu : ∀ d ∈ ds, A.units + d.depth < cLine) : SortsAt prog w A s (dataKind s.heap ds) vs := by
  by_cases all : ds.all neT = true
  · refine SortsAt.data e al (.inl fun d hd => ?_) hu
    have z := List.all_eq_true.mp all d hd
    obtain ⟨xs, rfl⟩ := ht d hd
    cases xs with
    | nil => cases z
    | cons x xs => exact ⟨x, xs, rfl⟩
  have room : ∀ {d d' : PyData}, d ∈ ds → A.units + min d.depth d'.depth < cLine := fun {d d'} hd => Nat.lt_of_le_of_lt (Nat.add_le_add_left (Nat.min_le_left _ _) _) (hu d hd)
  obtain ⟨fs, e1, e2⟩ := firsts_of (prog := prog) (w := w) (A := A) e ht
  have keys : ∀ v, v ∈ vs → ∃ a, (dataKind s.heap ds).keyOf v = some a := fun v hv => by
    obtain ⟨d, hd, as, r⟩ := e.left v hv
    exact ⟨_, dataKind_some al hd r⟩
  have na : ¬ (fs.toArray.all fun x => x.isSome) = true := fun z => all (by
    rw [List.all_toArray] at z
    have z2 : (fs.map (·.isSome)).all id = true := by rw [List.all_map]; exact z
    rw [e1, List.all_map] at z2
    exact z2)
  have go : ∀ (b : Bool) (kd : SortKind), (∀ x y, keyLt' kd x y = oneLt' b x y) → H.LtAt prog w A s (dataKind s.heap ds) kd := by
    intro b kd hk E x y a c Q ha hc q
    obtain ⟨d, as, hd, ra, rfl⟩ := dataKind_inv ha
    obtain ⟨d', as', hd', rb, rfl⟩ := dataKind_inv hc
    have hdd := al d hd d' hd'
    have hr := room (d' := d') hd
    obtain ⟨xs, rfl⟩ := ht d hd
    obtain ⟨ys, rfl⟩ := ht d' hd'
    rw [hk]
    cases b with
    | false => exact oneLt_alike nofun ra rb hdd nofun hr q
    | true => exact oneLt_tup ra rb (by simpa [alike] using hdd) hr q
  refine ⟨keys, ?_⟩
  by_cases f0 : (fs.toArray[0]?.bind id).isSome = true
  · refine ⟨general', go false _ fun x y => rfl, fun h2 E Q q => ?_⟩
    rw [keyKind'_eq, List.mapM_toArray, map_eq_pure_bind]
    apply wpAny_bind
    apply wpAny_bind
    apply e2
    apply wpAny_pure
    apply wp_if_neg na
    apply wp_if_pos f0
    exact wpAny_pure q
  · refine ⟨oneType', go true _ fun x y => rfl, fun h2 E Q q => ?_⟩
    rw [keyKind'_eq, List.mapM_toArray, map_eq_pure_bind]
    apply wpAny_bind
    apply wpAny_bind
    apply e2
    apply wpAny_pure
    apply wp_if_neg na
    apply wp_if_neg f0
    rw [oneTypeOnly'_eq, List.mapM_toArray, map_eq_pure_bind]
    apply wpAny_bind
    apply wpAny_bind
    apply wpAny_bind
    apply kas_mapM (r := Value.type "tuple")
    · intro v hv Q' q'
      obtain ⟨d, hd, as, r⟩ := e.left v hv
      obtain ⟨xs, rfl⟩ := ht d hd
      exact (looks_reads r).here q'
    · apply wpAny_pure
      cases vs with
      | nil => simp at h2
      | cons v vs =>
        have z : (((v :: vs).map fun _ => Value.type "tuple").toArray.all fun x => x == Value.type "tuple") = true := by simp
        simp only [List.map_cons, List.getElem?_toArray, List.getElem?_cons_zero]
        rw [List.map_cons] at z
        rw [z]
        exact wpAny_pure (wpAny_pure q)
end
end DN
/-! DN5: data of numbers and tuples as keys; set(list of such). -/
namespace DN
open PySem PySem.Spec PyProof.Rows L2 DL DL.Enc
mutual
def numP : PyData → Bool
  | .int _ => true
  | .tuple xs => numPs xs
  | _ => false
def numPs : List PyData → Bool
  | [] => true
  | x :: xs => numP x && numPs xs
end
mutual
def nkD : PyData → NestedKey
  | .int i => .num i
  | .tuple xs => .tup (nkDs xs)
  | _ => .none
def nkDs : List PyData → List NestedKey
  | [] => []
  | x :: xs => nkD x :: nkDs xs
end
mutual
theorem nk_ok : ∀ {d : PyData}, numP d = true → Nm (nkD d) = true ∧ (nkD d).depth ≤ d.depth
  | .int i, _ => ⟨rfl, Nat.zero_le _⟩
  | .tuple xs, h => by
    obtain ⟨a, b⟩ := nks_ok (ds := xs) h
    refine ⟨a, ?_⟩
    show NestedKey.depthAll (nkDs xs) + 1 ≤ PyData.depthAll xs + 1
    omega
  | .none, h => by cases h
  | .bool _, h => by cases h
  | .str _, h => by cases h
  | .list _, h => by cases h
  | .dict _, h => by cases h
theorem nks_ok : ∀ {ds : List PyData}, numPs ds = true → NmAll (nkDs ds) = true ∧ NestedKey.depthAll (nkDs ds) ≤ PyData.depthAll ds
  | [], _ => ⟨rfl, Nat.le_refl _⟩
  | d :: ds, h => by
    simp only [numPs, Bool.and_eq_true] at h
    obtain ⟨a, b⟩ := nk_ok h.1
    obtain ⟨a', b'⟩ := nks_ok h.2
    refine ⟨by simp [nkDs, NmAll, a, a'], ?_⟩
    show max (nkD d).depth (NestedKey.depthAll (nkDs ds)) ≤ max d.depth (PyData.depthAll ds)
    omega
end
mutual
theorem nk_inj : ∀ {d e : PyData}, numP d = true → numP e = true → nkD d = nkD e → d = e
  | .int i, .int j, _, _, h => by cases h; rfl
  | .tuple xs, .tuple ys, a, b, h => by
    have h : NestedKey.tup (nkDs xs) = .tup (nkDs ys) := h
    injection h with h
    rw [nks_inj a b h]
  | .int i, .tuple ys, _, _, h => by cases h
  | .tuple xs, .int j, _, _, h => by cases h
  | .none, _, h, _, _ => by cases h
  | .bool _, _, h, _, _ => by cases h
  | .str _, _, h, _, _ => by cases h
  | .list _, _, h, _, _ => by cases h
  | .dict _, _, h, _, _ => by cases h
  | .int _, .none, _, h, _ => by cases h
  | .int _, .bool _, _, h, _ => by cases h
  | .int _, .str _, _, h, _ => by cases h
  | .int _, .list _, _, h, _ => by cases h
  | .int _, .dict _, _, h, _ => by cases h
  | .tuple _, .none, _, h, _ => by cases h
  | .tuple _, .bool _, _, h, _ => by cases h
  | .tuple _, .str _, _, h, _ => by cases h
  | .tuple _, .list _, _, h, _ => by cases h
  | .tuple _, .dict _, _, h, _ => by cases h
theorem nks_inj : ∀ {ds es : List PyData}, numPs ds = true → numPs es = true → nkDs ds = nkDs es → ds = es
  | [], [], _, _, _ => rfl
  | [], _ :: _, _, _, h => by cases h
  | _ :: _, [], _, _, h => by cases h
  | d :: ds, e :: es, a, b, h => by
    simp only [numPs, Bool.and_eq_true] at a b
    simp only [nkDs, List.cons.injEq] at h
    rw [nk_inj a.1 b.1 h.1, nks_inj a.2 b.2 h.2]
end
mutual
theorem nk_reads {h : Heap} : ∀ {d : PyData} {v : Value} {as : List Addr}, numP d = true → Reads h v d as → NestedIs h (nkD d) v
  | .int i, _, _, _, r => by cases r; exact .int _ _
  | .tuple xs, _, _, n, r => by
    cases r with
    | tuple a b c e => exact .tup a b c (nks_reads n e)
  | .none, _, _, n, _ => by cases n
  | .bool _, _, _, n, _ => by cases n
  | .str _, _, _, n, _ => by cases n
  | .list _, _, _, n, _ => by cases n
  | .dict _, _, _, n, _ => by cases n
theorem nks_reads {h : Heap} : ∀ {ds : List PyData} {vs : List Value} {as : List Addr}, numPs ds = true → ReadsAll h vs ds as → NestedAll h (nkDs ds) vs
  | [], _, _, _, r => by cases r; exact .nil
  | d :: ds, _, _, n, r => by
    simp only [numPs, Bool.and_eq_true] at n
    cases r with
    | cons a b => exact .cons (nk_reads n.1 a) (nks_reads n.2 b)
end
/-- tuples of numbers, nested, with Python's order -/
class EncN (α : Type) extends EncO α where
  tp : ∀ a : α, ∃ xs, Enc.pe a = .tuple xs
  nm : ∀ a : α, numP (Enc.pe a) = true
  low : Enc.deep α ≤ 8
theorem numPs_map {α : Type} [Enc α] (h : ∀ a : α, numP (pe a) = true) : ∀ l : List α, numPs (l.map pe) = true
  | [] => rfl
  | a :: l => by
    simp only [List.map_cons, numPs, Bool.and_eq_true]
    exact ⟨h a, numPs_map h l⟩
theorem num_pair (x : Int × Int) : numP (pe x) = true := rfl
theorem num_case (c : Case) : numP (pe c) = true := numPs_map num_pair c
noncomputable instance : EncN Case where
  tp c := ⟨_, rfl⟩
  nm := num_case
  low := by decide
noncomputable instance : EncN Rule where
  tp c := ⟨_, rfl⟩
  nm r := by
    show (numP (pe r.1) && (numP (pe r.2) && true)) = true
    rw [num_case]
    rfl
  low := by decide
noncomputable instance : EncN (Int × Case) where
  tp c := ⟨_, rfl⟩
  nm r := by
    show (true && (numP (pe r.2) && true)) = true
    rw [num_case]
    rfl
  low := by decide
noncomputable instance : EncN (Int × Int) where
  tp c := ⟨_, rfl⟩
  nm r := rfl
  low := by decide
abbrev nk {α : Type} [Enc α] (a : α) : NestedKey := nkD (pe a)
section
variable {α : Type} [EncN α]
theorem nk_one {a b : α} (h : nk a = nk b) : a = b := by
  have e := nk_inj (EncN.nm a) (EncN.nm b) h
  refine (Enc.eqv a b).mp ?_
  rw [← e]
  exact (Enc.eqv a a).mpr rfl
theorem nk_key {h : Heap} {a : α} {b : Addr} {as : List Addr} (r : Reads h (.ref b) (pe a) as) : NK h (nk a) b := by
  obtain ⟨h1, h2⟩ := nk_ok (EncN.nm a)
  have h3 := dp a
  have h4 := EncN.low (α := α)
  exact ⟨nk_reads (EncN.nm a) r, h1, by show (nkD (pe a)).depth ≤ 8; omega⟩
end
/-! ### set(list) -/
section
variable {P : Program} {w : World} {A : Around} {E : Value → Shared → Prop} {s : Shared}
theorem setOfN {l : Addr} {its : Array Value} (ks : List (Addr × NestedKey)) {Q : Value → Shared → Prop} (calm : A.handled = none) (isl : s.heap.IsList l its) (hin : its.toList = ks.map fun p => Value.ref p.1) (hk : ∀ p ∈ ks, NK s.heap p.2 p.1) (few : ks.length < 4096) (hu : A.units + 20 < cLine)
    (fin : ∀ (h' : Heap) (tk : Nat) (L : List (Addr × NestedKey)) es ep t, NR w h' s.heap.objs.size L es ep t → Has ks ks.length L → (∀ b o, s.heap.get? b = some o → h'.get? b = some o) → Q (.ref s.heap.objs.size) { s with heap := h', toks := tk }) :
    wpAny (model P w) A (call (.type "set") [.ref l]) Q E s := by
  have esz : its.size = ks.length := by
    have q := congrArg List.length hin
    rw [Array.length_toList, List.length_map] at q
    exact q
  obtain ⟨c0, tl0, m0⟩ := F.called_set.mro
  have m1 := F.called_set.made
  have m2 := F.called_set.sub
  apply wpAny_call
  apply codeAny_of_tree
  show wpAny _ _ (callAny (.type "set") _) _ _ _
  apply wpAny_pure
  refine ⟨Code.quiet_builtin _ (by decide +kernel), ?_⟩
  apply codeAny_builtin F.entry_type_call
  rw [Around.under_plain (weight_type_call_type "set" [.ref l] []) rfl]
  have m3 := F.called_set.notType
  have m4 := F.called_set.canCreate
  have m5 := F.typeCall_set_1 (.ref l)
  repeat (any_goals (first | assumption | wp_step))
  apply codeAny_mono (code_set_led1 (.ref l) (E := E) (Q₁ := fun x t => x = .ref s.heap.objs.size ∧ t = { s with heap := s.heap.push (oSet w) }) ⟨rfl, rfl⟩)
  intro r t hr
  match r, hr with
  | .error e, hr => exact hr
  | .ok .next, hr => exact hr.elim
  | .ok .brk, hr => exact hr.elim
  | .ok .cont, hr => exact hr.elim
  | .ok (.ret x), hr =>
    obtain ⟨rfl, rfl⟩ := hr
    have n1 : (s.heap.push (oSet w)).get? s.heap.objs.size = some (oSet w) := Heap.get?_push_size _ rfl
    have n2 : Shared.TypeIs { s with heap := s.heap.push (oSet w) } (.ref s.heap.objs.size) "set" := ⟨_, n1, rfl⟩
    have n3 := F.called_set.init.lookup
    have n4 := F.called_set.init.bind (.ref s.heap.objs.size)
    repeat (any_goals (first | assumption | wp_step))
    apply codeAny_mono (codeAny_call_builtin (R := wants (fun r t => r = .none ∧ ∃ h' tk L es ep t2, t = { s with heap := h', toks := tk } ∧ NR w h' s.heap.objs.size L es ep t2 ∧ Has ks ks.length L ∧ (∀ b o, s.heap.get? b = some o → h'.get? b = some o)) E)
      F.called_set.init.plain F.entry_set_init (check_set_init_1 n2 ?_))
    · intro r t hr
      match r, hr with
      | .error e, hr => exact hr
      | .ok .next, hr => exact hr.elim
      | .ok .brk, hr => exact hr.elim
      | .ok .cont, hr => exact hr.elim
      | .ok (.ret x), hr =>
        obtain ⟨rfl, h', tk, L, es, ep, t2, rfl, z1, z2, z3⟩ := hr
        repeat (any_goals (first | assumption | wp_step))
        exact fin _ _ _ _ _ _ z1 z2 z3
    · obtain ⟨⟨k1, k2, k3, k4⟩, e1, e2, n, e3⟩ := isl
      simp only at e2 e3
      subst e2 e3
      have f1 : (s.heap.push (oSet w)).get? l = some { cls := .type "list", dict := k2, data := .seq its n, slots := k4 } := Heap.get?_push_of_some _ e1
      have f2 := F.sub_list_set
      have f3 := F.sub_list_frozenset
      have f4 : (Value.type "list" == Value.type "dict") = false := by decide
      have f5 : (s.heap.push (oSet w)).IsList l its := ⟨_, f1, rfl, n, rfl⟩
      unfold Builtin.«set.__init__» noKeywords Builtin.Frozenset.updateFrom
      generalize hP : pyIter = PI
      wp_walk
      subst hP
      apply wpAny_pyIter_list f5
      apply wpAny_bind
      apply wpAny_runValue
      have lt : l < s.heap.objs.size := Heap.lt_size e1
      have sz : (s.heap.push (oSet w)).objs.size = s.heap.objs.size + 1 := Heap.size_push ..
      have g1 : l ≠ (s.heap.push (oSet w)).objs.size := fun e => absurd (show l < s.heap.objs.size from lt) (by rw [e, sz]; exact Nat.not_lt_of_le (Nat.le_succ _))
      have g2 : s.heap.objs.size ∉ [(s.heap.push (oSet w)).objs.size, l] := by
        rw [sz]
        intro m
        rcases List.mem_cons.mp m with e | m
        · exact Nat.ne_of_lt (Nat.lt_succ_self _) e
        · exact Nat.ne_of_gt lt (List.mem_singleton.mp m)
      have g3 : ∀ (i : Nat) (v : Value), its[i]? = some v → ∃ p, ks[i]? = some p ∧ v = .ref p.1 := by
        intro i v hv
        have e : (ks.map fun p => Value.ref p.1)[i]? = some v := by rw [← hin, Array.getElem?_toList]; exact hv
        rw [List.getElem?_map] at e
        obtain ⟨p, hp, e⟩ := Option.map_eq_some_iff.mp e
        exact ⟨p, hp, e.symm⟩
      have none_of : ∀ b, s.heap.objs.size ≤ b → s.heap.get? b = none := by
        intro b hb
        cases q : s.heap.get? b with
        | none => rfl
        | some o => exact absurd (Nat.lt_of_lt_of_le (Heap.lt_size q) hb) (Nat.lt_irrefl _)
      refine updateN ((Walks.list (by simp [calm]) _ l g1 its).toS) s.heap.objs.size g2 ks esz few g3 s.heap hk (none_of _ (Nat.le_refl _)) (fun b hb => none_of b (by
          rw [List.mem_singleton.mp hb, sz]
          exact Nat.le_succ _)) (by show A.units + 1 + 1 + 1 + 8 < cLine; omega) (its.size - 0) 0 _ (by omega) (Nat.zero_le _) ⟨⟨_, Heap.get?_push_size _ rfl, rfl, rfl⟩, f5.push _⟩ (fun b o e => Heap.get?_push_of_some _ (Heap.get?_push_of_some _ e)) ?_ ?_
      · exact ⟨[], #[], 0, _, NR.new (Heap.get?_push_of_some _ n1), Nat.le_refl _, fun p hp => (by cases hp), fun p hp => (by simp at hp)⟩
      · rintro ⟨h', gg, d', tk', os'⟩ L es ep t2 hm hS g' hkp
        cases (show gg = s.gens from hm.gens)
        cases (show d' = s.drawn from hm.drawn)
        cases (show os' = s.os from hm.os)
        show wpAny _ _ _ _ _ _
        apply wpAny_pure
        show wpAny _ _ (ret Value.none) _ _ _
        rw [esz] at g'
        apply wpAny_pure
        exact ⟨rfl, h', tk', L, es, ep, t2, rfl, hS, g', hkp⟩
/-- the set at a, its keys aside -/
structure N0 (w : World) (h : Heap) (a : Addr) (L : List (Addr × NestedKey)) : Prop where
  ex : ∃ (es : Array (Int × Value)) (ep : Nat) (t : SetTable), (∃ o, h.get? a = some o ∧ o.ExactSet ∧ o.data = .set es ep t) ∧ es.toList = L.map (rowN w) ∧ TP t (L.map fun p => p.2.hash w) ∧ (L.map (·.2)).Nodup ∧ t.plain = true ∧
    (w.params.followText "set-order" = true ∨ t.led = true) ∧ L.length * 5 < t.mask * 3 ∧ L.length < 4096
def SetN (w : World) (a : Addr) (L : List (Addr × NestedKey)) : HO := .ext fun h => N0 w h a L
theorem NR.n0 {h : Heap} {a : Addr} {L : List (Addr × NestedKey)} {es : Array (Int × Value)} {ep : Nat} {t : SetTable} (R : NR w h a L es ep t) : N0 w h a L := ⟨es, ep, t, R.ob, R.rows, R.tab, R.nd, R.plain, R.led, R.room, R.few⟩
theorem N0.full {h : Heap} {a : Addr} {L : List (Addr × NestedKey)} (R : N0 w h a L) (hk : ∀ p ∈ L, NK h p.2 p.1) : ∃ es ep t, NR w h a L es ep t := by
  obtain ⟨es, ep, t, h1, h2, h3, h4, h5, h6, h7, h8⟩ := R.ex
  exact ⟨es, ep, t, h1, h2, h3, h4, hk, h5, h6, h7, h8⟩
theorem setN_new {H : Hp} {h : Heap} {a : Addr} {L : List (Addr × NestedKey)} (R : N0 w h a L) : ObjOk P w H h a (SetN w a L) := by
  have ⟨_, _, _, ⟨o, ho, _⟩, _⟩ := R.ex
  refine ⟨R, ⟨o, ho⟩, fun h1 h2 p k => ?_⟩
  have ⟨es', ep', t', ⟨o', ho', r'⟩, q'⟩ := N0.ex p
  exact ⟨es', ep', t', ⟨o', k o' ho', r'⟩, q'⟩
end
end DN
/-! DN6: sorted(set(xs)), xs a list of tuples of numbers, nested. -/
namespace DN
open PySem PySem.Spec PyProof.Rows L2 DL DL.Enc
open PySem.W (EachIs alike alikeAll dataLt AllAlike dataLe sortingHeap dataKind)
theorem perm_map {α β : Type} {f : α → β} : ∀ {us vs : List β}, us.Perm vs → ∀ l : List α, us = l.map f → ∃ l', l.Perm l' ∧ vs = l'.map f := by
  intro us vs h
  induction h with
  | nil => intro l e; exact ⟨l, .refl _, e⟩
  | cons x h ih =>
    intro l e
    cases l with
    | nil => cases e
    | cons a l =>
      simp only [List.map_cons, List.cons.injEq] at e
      obtain ⟨l', p, q⟩ := ih l e.2
      exact ⟨a :: l', p.cons a, by rw [List.map_cons, ← e.1, q]⟩
  | swap x y t =>
    intro l e
    match l, e with
    | a :: b :: l, e =>
      simp only [List.map_cons, List.cons.injEq] at e
      exact ⟨b :: a :: l, .swap b a l, by rw [List.map_cons, List.map_cons, ← e.1, ← e.2.1, ← e.2.2]⟩
  | trans h1 h2 i1 i2 =>
    intro l e
    obtain ⟨l1, p1, q1⟩ := i1 l e
    obtain ⟨l2, p2, q2⟩ := i2 l1 q1
    exact ⟨l2, p1.trans p2, q2⟩
section
variable {α : Type} [EncN α]
/-- the rows of a set of data -/
abbrev keysN (LA : List (Addr × α)) : List (Addr × NestedKey) := LA.map fun p => (p.1, nk p.2)
def rSetN (α : Type) [EncN α] (K : PySem.W.Frag) (w : World) : List V → Hp → VK → Prop := fun xs H Q => ∃ (l : Addr) (ks : List (Addr × α)), xs = [V.ref l] ∧ SqL K H l (ks.map fun p => V.ref p.1) ∧ (∀ p ∈ ks, Dp K H (.ref p.1) (pe p.2)) ∧ ks.length < 4096 ∧
  ∀ a LA, H a = none → (∀ p ∈ LA, p ∈ ks) → (LA.map (·.2)).Nodup → (∀ p ∈ ks, p.2 ∈ LA.map (·.2)) → Q (.ref a) (upd H a (SetN w a (keysN LA)))
theorem refsN : ∀ {ks : List (Addr × α)} {us : List Value}, Vals (ks.map fun p => V.ref p.1) us → us = ks.map fun p => Value.ref p.1
  | [], _, .nil => rfl
  | p :: ks, _, .cons r t => by
    cases r
    rw [refsN t]
    rfl
theorem rows_back {ks : List (Addr × α)} : ∀ {L : List (Addr × NestedKey)}, (∀ p ∈ L, p ∈ keysN ks) → ∃ LA : List (Addr × α), L = keysN LA ∧ ∀ p ∈ LA, p ∈ ks
  | [], _ => ⟨[], rfl, fun p hp => by cases hp⟩
  | p :: L, h => by
    obtain ⟨LA, e, hs⟩ := rows_back fun z hz => h z (List.mem_cons_of_mem _ hz)
    obtain ⟨q, hq, rfl⟩ := List.mem_map.mp (h p List.mem_cons_self)
    refine ⟨q :: LA, by rw [e]; rfl, fun z hz => ?_⟩
    rcases List.mem_cons.mp hz with rfl | hz
    · exact hq
    · exact hs z hz
variable {X : Cx} {W : WX} {e : Expr} {pos : Pos}
theorem cr_setN (hc : X.calm = true) (hu : X.A.units + 150 < cLine) : CallR X (.type "set") (rSetN α X.K X.w) := by
  rintro pins s σ H xs us Q I r ⟨l, ks, rfl, hl, hk, hf, q⟩
  rw [Vals.ref1 r]
  obtain ⟨its, rv, pl, hz⟩ := I.list hl
  have hn : H s.heap.objs.size = none := I.hok.fresh (Nat.le_refl _)
  refine setOfN (P := X.prog) (w := X.w) (keysN ks) (I.ok.hd hc) pl.isList (by rw [List.map_map]; exact refsN rv) (fun p hp => ?_) (by rw [List.length_map]; exact hf) (by omega) fun h' tk L es ep t R g k => ?_
  · obtain ⟨p, hp', rfl⟩ := List.mem_map.mp hp
    obtain ⟨as, rd⟩ := Dp.reads I (pe p.2) (.ref p.1) (.ref p.1) (hk p hp') rfl
    exact nk_key rd
  · obtain ⟨LA, rfl, hs⟩ := rows_back (ks := ks) fun p hp => List.mem_of_mem_take (g.sub p hp)
    refine ⟨.ref _, _, I.laid (t' := tk) k (Nat.le_refl _) (setN_new R.n0), rfl, q _ LA hn hs ?_ fun p hp => ?_⟩
    · have nd := R.nd
      rw [List.map_map] at nd
      rw [List.Nodup, List.pairwise_map] at nd ⊢
      exact nd.imp fun {a b} h e => h (congrArg nk e)
    · have z := g.all (p.1, nk p.2) (by rw [List.take_length]; exact List.mem_map.mpr ⟨p, hp, rfl⟩)
      rw [List.map_map] at z
      obtain ⟨r, hr, e⟩ := List.mem_map.mp z
      exact List.mem_map.mpr ⟨r, hr, nk_one e⟩
/-- sorted of such a set -/
def rSortN (α : Type) [EncN α] (K : PySem.W.Frag) (w : World) : List V → Hp → VK → Prop := fun vs H Q => ∃ (a : Addr) (LA : List (Addr × α)) (T : V → α → Prop), vs = [V.ref a] ∧ H a = some (SetN w a (keysN LA)) ∧ (∀ p ∈ LA, T (.ref p.1) p.2) ∧ (∀ p ∈ LA, Dp K H (.ref p.1) (pe p.2)) ∧
  ∀ ys out p, EachIs T ys out → out.Perm (LA.map (·.2)) → Asc out → H p = none → Q (.ref p) (upd H p (.lst ys))
theorem each_of_list {β γ δ : Type} {R : γ → δ → Prop} {f : β → γ} {g : β → δ} : ∀ {l : List β}, (∀ x ∈ l, R (f x) (g x)) → EachIs R (l.map f) (l.map g)
  | [], _ => .nil
  | x :: l, h => .cons (h x List.mem_cons_self) (each_of_list fun z hz => h z (List.mem_cons_of_mem _ hz))
theorem cr_sortN (hc : X.calm = true) (hu : X.A.units + 150 < cLine) : CallR X (.builtin "sorted") (rSortN α X.K X.w) := by
  rintro pins s σ H vs us Q I r ⟨a, LA, T, rfl, ha, hT, hk, q⟩
  rw [Vals.ref1 r]
  have R0 : N0 X.w s.heap a (keysN LA) := (I.hok a _ ha).1
  have rd : ∀ p ∈ LA, ∃ as, Reads s.heap (.ref p.1) (pe p.2) as := fun p hp => Dp.reads I (pe p.2) (.ref p.1) (.ref p.1) (hk p hp) rfl
  obtain ⟨es, ep, t, R⟩ := R0.full fun p hp => by
    obtain ⟨p, hp', rfl⟩ := List.mem_map.mp hp
    obtain ⟨as, z⟩ := rd p hp'
    exact nk_key z
  obtain ⟨o, ho, hex, hd⟩ := R.ob
  have few := R.few
  rw [List.length_map] at few
  refine Calls.call_function_entry kind_sorted plain_sorted entry_sorted (args_sorted1 _) ?_
  unfold Builtin.«sorted»
  apply wpAny_bind (m := checkCount "sorted" 1 1 _)
  apply wpAny_pure
  apply wpAny_bind
  refine collect_set (A := X.A.in1) (I.ok.hd hc) ⟨o, ho, hex.1, hd⟩ R.fits (by rw [R.size, List.length_map]; exact few) R.tab.ris R.led fun s1 vs k1 hz g1 o1 pm => ?_
  rw [R.rows, List.map_map, List.map_map] at pm
  obtain ⟨LB, pB, rfl⟩ := perm_map pm.symm LA rfl
  have lB : LB.length < 4096 := by rw [← pB.length_eq]; exact few
  apply wpAny_bind
  apply wpAny_newList ?_ (by rw [List.length_map, sizeLine_eq]; omega)
  generalize hvs : LB.map ((Prod.snd ∘ rowN X.w) ∘ fun p => (p.1, nk p.2)) = vs
  have hvs : vs = LB.map fun p => Value.ref p.1 := by rw [← hvs]; rfl
  have hoL : (s1.heap.push (seqObj "list" vs.toArray 0)).get? s1.heap.objs.size = some (seqObj "list" vs.toArray 0) := Heap.get?_push_size _ rfl
  have up : ∀ b u, s.heap.get? b = some u → b ≠ s1.heap.objs.size ∧ (s1.heap.push (seqObj "list" vs.toArray 0)).get? b = some u := fun b u e => by
    have z := k1 b u e
    exact ⟨Nat.ne_of_lt (Heap.lt_size z), Heap.get?_push_of_some _ z⟩
  have e1 : EachIs (fun u (b : α) => ∃ x, RelV x u ∧ T x b) vs (LB.map (·.2)) := by
    rw [hvs]
    exact each_of_list fun p hp => ⟨.ref p.1, rfl, hT p (pB.mem_iff.mpr hp)⟩
  have e2 : EachIs (fun u (b : α) => ∃ as, Reads (sortingHeap (s1.heap.push (seqObj "list" vs.toArray 0)) s1.heap.objs.size vs) u (pe b) as) vs (LB.map (·.2)) := by
    refine Eq.mp (congrArg (fun z => EachIs (fun u (b : α) => ∃ as, Reads (sortingHeap (s1.heap.push (seqObj "list" vs.toArray 0)) s1.heap.objs.size vs) u (pe b) as) z (LB.map (·.2))) hvs.symm) ?_
    refine each_of_list fun p hp => ?_
    obtain ⟨as, z⟩ := rd p (pB.mem_iff.mpr hp)
    exact ⟨as, PyProof.Rows.Reads.keeps (fun b u e => PySem.W.sortingHeap_old (up b u e).1 (up b u e).2) z⟩
  have al : AllAlike ((LB.map (·.2)).map pe) := .of EncO.al
  have low := EncN.low (α := α)
  have S := sorts_tups (prog := X.prog) (w := X.w) (A := X.A.in1.in1) (s := { s1 with heap := sortingHeap (s1.heap.push (seqObj "list" vs.toArray 0)) s1.heap.objs.size vs }) (PySem.W.each_map (R := fun v d => ∃ as, Reads (sortingHeap (s1.heap.push (seqObj "list" vs.toArray 0)) s1.heap.objs.size vs) v d as) pe e2) al (fun d hd => by
    obtain ⟨b, _, rfl⟩ := List.mem_map.mp hd
    exact EncN.tp b) (fun d hd => by
    obtain ⟨b, _, rfl⟩ := List.mem_map.mp hd
    have := dp b
    show X.A.units + 1 + 1 + _ < _
    omega)
  have vl : vs.length ≤ sizeLine := by rw [hvs, List.length_map, sizeLine_eq]; omega
  apply wpAny_bind
  apply wpAny_holding
  refine wpAny_call_entry slot_list_sort (s := { s1 with heap := s1.heap.push (seqObj "list" vs.toArray 0) }) ⟨_, hoL, rfl⟩ entry_list_sort (PySem.W.list_sort_vals (s := { s1 with heap := s1.heap.push (seqObj "list" vs.toArray 0) }) hoL S vl ⟨.none, rfl, ?_⟩) (args_list_sort _)
  have fin := PySem.W.sortVals_data false e1 e2 al
  obtain ⟨ys, vy, ty⟩ := each_back fin
  have hlen : (PySem.W.sortVals (dataKind (sortingHeap (s1.heap.push (seqObj "list" vs.toArray 0)) s1.heap.objs.size vs) ((LB.map (·.2)).map pe)) false vs vs).length = vs.length := PySem.W.sortVals_length false rfl
  generalize PySem.W.sortVals (dataKind (sortingHeap (s1.heap.push (seqObj "list" vs.toArray 0)) s1.heap.objs.size vs) ((LB.map (·.2)).map pe)) false vs vs = out at *
  obtain ⟨c, hcc⟩ := sortedHeap_at (vs := vs) (out := out.toArray) hoL
  have hn : H s1.heap.objs.size = none := I.hok.fresh hz
  have ly : ys.length ≤ sizeLine := by rw [vy.length, hlen]; exact vl
  apply wpAny_pure
  refine ⟨_, rfl, ?_⟩
  have k2 : ∀ b u, s.heap.get? b = some u → (sortedHeap (s1.heap.push (seqObj "list" vs.toArray 0)) s1.heap.objs.size vs out.toArray).get? b = some u := fun b u e => by
    have z := k1 b u e
    have zl := Heap.lt_size z
    rw [sortedHeap_old (Nat.ne_of_lt zl) (by rw [size_push']; exact Nat.lt_succ_of_lt zl)]
    exact Heap.get?_push_of_some _ z
  have J : Inv X pins σ (upd H s1.heap.objs.size (.lst ys)) { s with heap := sortedHeap (s1.heap.push (seqObj "list" vs.toArray 0)) s1.heap.objs.size vs out.toArray, gens := s1.gens, drawn := s1.drawn, toks := s1.toks } :=
    I.call (ch := []) (Un.laid k2 hz hn) (I.hok.laid k2 hz ⟨ly, out, c, vy, hcc⟩) (by rw [g1]; exact I.bare) (fun _ z => nomatch z)
  have es : ({ s1 with heap := sortedHeap (s1.heap.push (seqObj "list" vs.toArray 0)) s1.heap.objs.size vs out.toArray } : Shared) = { s with heap := sortedHeap (s1.heap.push (seqObj "list" vs.toArray 0)) s1.heap.objs.size vs out.toArray, gens := s1.gens, drawn := s1.drawn, toks := s1.toks } := by
    cases s1
    cases s
    cases o1
    rfl
  show EP X pins σ Q (.ref s1.heap.objs.size) { s1 with heap := sortedHeap (s1.heap.push (seqObj "list" vs.toArray 0)) s1.heap.objs.size vs out.toArray }
  rw [es]
  exact ⟨.ref _, _, J, rfl, q ys _ _ ty ((List.mergeSort_perm _ _).trans (pB.symm.map _)) (merge_asc _) hn⟩
/-- sorted(set(xs)) -/
def wSortSetN (α : Type) [EncN α] (wr : WA) : DL.WE := fun sl M Q E => wr sl M (fun ds M1 => ∃ l : List α, ds.map (der M1) = [.lst (l.map enc)] ∧ l.length < 4096 ∧ ∀ out : List α, out.Nodup → Asc out → (∀ b, b ∈ out ↔ b ∈ l) → Q (.lst (out.map enc)) M1) E
theorem rows_of {Hf : Hp} : ∀ {l : List α} {vs : List V}, RepAll Hf vs (l.map enc) → ∃ ks : List (Addr × α), vs = ks.map (fun p => V.ref p.1) ∧ l = ks.map (·.2) ∧ ∀ p ∈ ks, Rep Hf (.ref p.1) (enc p.2)
  | [], _, .nil => ⟨[], rfl, rfl, fun p hp => by cases hp⟩
  | b :: l, _, .cons h r => by
    obtain ⟨ks, rfl, e2, h2⟩ := rows_of r
    obtain ⟨xs, hx⟩ := EncN.tp b
    have hb := hp b
    rw [hx] at hb
    have : ∃ ds, enc b = .tup ds := by
      cases hh : enc b with
      | tup ds => exact ⟨ds, rfl⟩
      | lst ds => rw [hh, py] at hb; cases z : pyAll ds <;> rw [z] at hb <;> cases hb
      | _ => rw [hh] at hb; cases hb
    obtain ⟨ds, hd⟩ := this
    have h0 := h
    rw [hd] at h
    cases h with
    | @tup a o xs' _ q1 q2 q3 =>
      refine ⟨(a, b) :: ks, rfl, by rw [e2]; rfl, fun p hp => ?_⟩
      rcases List.mem_cons.mp hp with rfl | hp
      · exact h0
      · exact h2 p hp
theorem d_sortSetN (α : Type) [EncN α] {p p1 p2 : Pos} {wr : WA} (hc : X.calm = true) (hu : X.A.units + 150 < cLine) (hg : Gl X "sorted") (hm : X.mg "sorted" = none) (hg2 : Gl X "set") (hm2 : X.mg "set" = none) (ha : PA X [e] (lowA W wr))
    (he : starEach [e] X.env = (false, eval e X.env) :: starEach [] X.env := by rfl) (hp2 : (backTo p2 (starEach [] X.env)).any (·.1) = false := by rfl)
    (he1 : starEach [.Call (.Name "set" p1) [e] [] p2] X.env = (false, eval (.Call (.Name "set" p1) [e] [] p2) X.env) :: starEach [] X.env := by rfl) (hp : (backTo pos (starEach [] X.env)).any (·.1) = false := by rfl) :
    PE X (.Call (.Name "sorted" p) [.Call (.Name "set" p1) [e] [] p2] [] pos) (low W (wSortSetN α wr)) := by
  have one : PE X (.Call (.Name "set" p1) [e] [] p2) (tCB (rSetN α X.K X.w) (lowA W wr)) := pe_callTy (cr_setN hc hu) hg2 hm2 (by kernel_rfl) ha (by decide) (by decide) he hp2
  refine PE.imp (pe_callB (cr_sortN (α := α) hc hu) hg hm (by kernel_rfl) (pa_cons one pa_nil he1) (by decide) (by decide) he1 hp) fun σ H Q ⟨sl, Hf, M, Qd, Xd, rl, w, k, kx⟩ => ⟨sl, Hf, M, _, Xd, rl, w, fun ds Hf1 M1 vs H1 s1 r1 w1 => ?_, kx⟩
  obtain ⟨l, ed, hl, q⟩ := w1
  have rt := RepTs.of s1.wd r1
  rw [ed] at rt
  obtain ⟨v, rfl, h⟩ := rt.one
  obtain ⟨a, xs, rfl, ha, r⟩ := h.lst s1.wd.le
  obtain ⟨ks, rfl, rfl, hk⟩ := rows_of r
  rw [List.length_map] at hl
  refine ⟨a, ks, rfl, .of ha, fun p hp => ((hk p hp).mono s1.wd.le).dp (Enc.hp p.2), hl, fun s LA hn hsub nd hall => ?_⟩
  have f1 := s1.wd.free hn
  have s3 : Stp Hf1 M1 H1 Hf1 M1 (upd H1 s (SetN X.w s (keysN LA))) := (Stp.refl s1.wd).other hn f1.2 f1.1
  refine ⟨s, LA, fun x b => Rep Hf1 x (enc b), rfl, upd_same, fun p hp => hk p (hsub p hp), fun p hp => ((hk p (hsub p hp)).mono s3.wd.le).dp (Enc.hp p.2), fun ys out t ey pm asc ht => ?_⟩
  have g := Grow.one (o := .lst ys) s3.wd.le ht
  refine k _ _ M1 _ _ ((s1.trans s3).trans (Stp.grow s3.wd g)) (.lst upd_same ((rep_each ey).mono g.fz)) (q out (pm.nodup_iff.mpr nd) asc fun b => ?_)
  rw [pm.mem_iff]
  constructor
  · intro hb
    obtain ⟨p, hp, rfl⟩ := List.mem_map.mp hb
    exact List.mem_map.mpr ⟨p, hsub p hp, rfl⟩
  · intro hb
    obtain ⟨p, hp, rfl⟩ := List.mem_map.mp hb
    exact hall p hp
end
end DN
/-! DW1: while; xs.pop(i). -/
namespace DL
open PySem PySem.Spec PyProof.Rows L2
section
variable {X : Cx} {W : WX} {e o c : Expr} {pos apos : Pos} {wo we : DL.WE}
/-- while: a word with a number that falls -/
def wWhl (wt : WT) (tb : WS) : WS := fun E sl M => ∃ J : Nat → DS → MS → Prop, (∃ m, J m sl M) ∧ ∀ m sl M, J m sl M →
  wt sl M (fun b M1 => if b = true then tb { E with nx := fun sl' M' => ∃ m', m' < m ∧ J m' sl' M', ct := fun sl' M' => ∃ m', m' < m ∧ J m' sl' M', bk := E.nx } sl M1 else E.nx sl M1) (fun c M => E.ex c sl M)
theorem s_whl {body : List Stmt} {wt : WT} {tb : WS} (hp : PassesOwn (model X.prog X.w) X.A X.env X.xe) (hc : PT X c (lowT W wt)) (hb : PSs X body (lowS W tb)) : PS X (.While c body [] pos) (lowS W (wWhl wt tb)) := by
  refine PS.imp (ps_while hp hc hb) fun D σ H ⟨sl, Hf, M, E, rl, w, k1, k2, k3, k4, k5⟩ => ?_
  obtain ⟨J, ⟨m, w0⟩, turn⟩ := w
  refine ⟨fun n σ' H' => ∃ sl' Hf' M', Rl sl' Hf' M' σ' H' ∧ Stp Hf M H Hf' M' H' ∧ J n sl' M', ⟨m, sl, Hf, M, rl, Stp.refl rl.wd, w0⟩, ?_⟩
  rintro n σ2 H2 ⟨sl2, Hf2, M2, rl2, st2, w2⟩
  refine ⟨sl2, Hf2, M2, _, _, rl2, turn n sl2 M2 w2, fun b Hf3 M3 H3 s3 q3 => ?_, fun c Hf' M' H' s q => k5 c sl2 Hf' M' σ2 H' (st2.trans s) (rl2.step s) q⟩
  have s4 : Stp Hf M H Hf3 M3 H3 := st2.trans s3
  cases b with
  | false =>
    simp only [Bool.false_eq_true, if_false] at q3 ⊢
    exact k1 sl2 Hf3 M3 σ2 H3 s4 (rl2.step s3) q3
  | true =>
    simp only [if_true] at q3 ⊢
    refine ⟨fun σ' H' => ∃ m', m' < n ∧ ∃ sl' Hf' M', Rl sl' Hf' M' σ' H' ∧ Stp Hf M H Hf' M' H' ∧ J m' sl' M', fun _ _ h => h, ?_⟩
    refine ⟨sl2, Hf3, M3, _, rl2.step s3, q3, fun sl'' Hf' M' σ'' H' s r q => ?_, fun d Hf' M' v H' s => k2 d Hf' M' v H' (s4.trans s), fun sl'' Hf' M' σ'' H' s => k1 sl'' Hf' M' σ'' H' (s4.trans s), fun sl'' Hf' M' σ'' H' s r q => ?_, fun c sl'' Hf' M' σ'' H' s => k5 c sl'' Hf' M' σ'' H' (s4.trans s)⟩
    · obtain ⟨m', hm, q⟩ := q
      exact ⟨m', hm, sl'', Hf', M', r, s4.trans s, q⟩
    · obtain ⟨m', hm, q⟩ := q
      exact ⟨m', hm, sl'', Hf', M', r, s4.trans s, q⟩
theorem RepAll.eraseIdx {H : Hp} : ∀ {ds : List Dd} {vs : List V} (i : Nat), RepAll H vs ds → RepAll H (vs.eraseIdx i) (ds.eraseIdx i)
  | [], _, _, .nil => .nil
  | _ :: _, _, 0, .cons _ r => r
  | _ :: _, _, i + 1, .cons h r => .cons h (RepAll.eraseIdx i r)
/-- xs.pop(i) -/
def wPopAt (wo we : DL.WE) : DL.WE := fun sl M Q E => wo sl M (fun d M1 => ∃ p ds0, d = .raw (.ref p) ∧ M1 p = some (.lst ds0) ∧ we sl M1 (fun x M2 => ∃ ds i y, x = .int i ∧ M2 p = some (.lst ds) ∧ ds.length < 90000 ∧ 0 ≤ i ∧ ds[i.toNat]? = some y ∧ Q y (updM M2 p (.lst (ds.eraseIdx i.toNat)))) E) E
theorem d_popAt (ho : PE X o (low W wo)) (he : PE X e (low W we)) (hbase : attributeBase o "pop" X.env (eval o X.env) = eval o X.env := by rfl)
    (hfew : ((backTo pos (starEach [e] X.env)).all (fun x => !x.1) && (backToKw pos (keywordEach [] X.env)).all (fun x => x.1.isSome)
      && decide ([e].length + ([] : List Keyword).length + (if ([] : List Keyword).isEmpty then 0 else 1) < 30)) = true := by rfl)
    (hline : (apos.endLine == pos.line) = true := by rfl) (hs : starEach [e] X.env = (false, eval e X.env) :: starEach [] X.env := by rfl) (hplain : (backTo pos (starEach [] X.env)).any (·.1) = false := by rfl) :
    PE X (.Call (.Attribute o "pop" apos) [e] [] pos) (low W (wPopAt wo we)) := by
  refine PE.imp (pe_bm PySem.F.plainAttrs_list PySem.F.slot_list_pop PySem.F.type_list_pop mt_popAt ho (pa_cons he pa_nil hs) hbase hfew hline hs hplain) fun σ H Q ⟨sl, Hf, M, Qd, Xd, rl, w, k, kx⟩ => ⟨sl, Hf, M, _, Xd, rl, w, fun d Hf1 M1 v H1 s1 r1 w1 => ?_, kx⟩
  obtain ⟨p, ds0, rfl, hp, w1⟩ := w1
  cases r1
  obtain ⟨xs0, h0, _⟩ := s1.wd.ok p _ hp
  refine ⟨.inl ⟨rfl, _, .of h0⟩, ⟨sl, Hf1, M1, _, Xd, rl.step s1, w1, fun x Hf2 M2 y H2 s2 r2 w2 => ?_, fun c Hf2 M2 H2 s2 hx => kx c Hf2 M2 H2 (s1.trans s2) hx⟩⟩
  obtain ⟨ds, i, z, rfl, hd, hz, i0, hy, q⟩ := w2
  obtain ⟨xs, h1, r⟩ := s2.wd.ok p _ hd
  cases r2
  obtain ⟨v, hv, rv⟩ := r.getD hy
  have hl := r.length
  have lt : i.toNat < xs.length := (List.getElem?_eq_some_iff.mp hv).1
  refine ⟨p, xs, i, i.toNat, v, rfl, rfl, h1, by omega, by omega, ?_, hv, ?_⟩
  · have a1 : ¬ i < 0 := by omega
    have a2 : (decide (0 ≤ i) && decide (i < (xs.length : Int))) = true := by
      rw [Bool.and_eq_true, decide_eq_true_eq, decide_eq_true_eq]
      omega
    simp only [seqIndex?, if_neg a1]
    rw [if_pos a2]
  · exact k z Hf2 _ v _ ((s1.trans s2).trans (Stp.write (mo := .lst (ds.eraseIdx i.toNat)) s2.wd (.inl ⟨_, hd⟩) ⟨_, upd_same, r.eraseIdx _⟩)) rv q
end
end DL
/-! DP7: smallest lists and conditions put together, plainly. -/
namespace DL
open PySem PySem.Spec PyProof.Rows L2 Enc TL
/-! ### smallest lists -/
/-- the rules give just v for the case -/
def isOne (rs : List Rule) (c : Case) (v : Int) : Bool := !(decs rs c).isEmpty && (decs rs c).all fun r => decide (r.2 = v)
theorem one_iff {rs : List Rule} {c : Case} {v : Int} {ms : List Int} (up : ms.Pairwise (· < ·)) (mem : ∀ k, k ∈ ms ↔ k ∈ (decs rs c).map (·.2)) : decide (ms = [v]) = isOne rs c v := by
  rw [Bool.eq_iff_iff, decide_eq_true_eq]
  unfold isOne
  rw [Bool.and_eq_true, Bool.not_eq_true', List.all_eq_true]
  constructor
  · rintro rfl
    refine ⟨?_, fun r hr => ?_⟩
    · have := (mem v).mp List.mem_cons_self
      cases hd : decs rs c with
      | nil => rw [hd] at this; cases this
      | cons a l => rfl
    · have := (mem r.2).mpr (List.mem_map.mpr ⟨r, hr, rfl⟩)
      exact decide_eq_true (List.mem_singleton.mp this)
  · rintro ⟨h1, h2⟩
    refine asc_uniq up (List.pairwise_singleton _ _) fun k => ?_
    rw [mem, List.mem_singleton]
    constructor
    · intro h
      obtain ⟨r, hr, rfl⟩ := List.mem_map.mp h
      exact of_decide_eq_true (h2 r hr)
    · rintro rfl
      cases hd : decs rs c with
      | nil => rw [hd] at h1; cases h1
      | cons a l =>
        have := of_decide_eq_true (h2 a (by rw [hd]; exact List.mem_cons_self))
        rw [← this]
        simp
def keepR (kept : List Rule) (r : Rule) : List Rule := if isOne (kept.filter fun o => strW o.1 r.1) r.1 r.2 = true then kept else kept ++ [r]
def smallGo (kept l : List Rule) : List Rule := l.foldl keepR kept
theorem small_app (kept a b : List Rule) : smallGo kept (a ++ b) = smallGo (smallGo kept a) b := List.foldl_append
theorem small_one (kept : List Rule) (r : Rule) : smallGo kept [r] = keepR kept r := rfl
theorem keep_sub {kept : List Rule} {r z : Rule} (h : z ∈ keepR kept r) : z ∈ kept ∨ z = r := by
  unfold keepR at h
  split at h
  · exact .inl h
  · rw [List.mem_append, List.mem_singleton] at h
    exact h
theorem keep_len (kept : List Rule) (r : Rule) : (keepR kept r).length ≤ kept.length + 1 := by
  unfold keepR
  split <;> simp
theorem small_sub {kept l : List Rule} : ∀ {z : Rule}, z ∈ smallGo kept l → z ∈ kept ∨ z ∈ l := by
  induction l generalizing kept with
  | nil => intro z h; exact .inl h
  | cons r l ih =>
    intro z h
    rcases ih (kept := keepR kept r) h with h | h
    · rcases keep_sub h with h | rfl
      · exact .inl h
      · exact .inr List.mem_cons_self
    · exact .inr (List.mem_cons_of_mem _ h)
theorem small_len (kept l : List Rule) : (smallGo kept l).length ≤ kept.length + l.length := by
  induction l generalizing kept with
  | nil => exact Nat.le_refl _
  | cons r l ih =>
    have h1 := ih (keepR kept r)
    have h2 := keep_len kept r
    show (smallGo (keepR kept r) l).length ≤ _
    rw [List.length_cons]
    omega
theorem small_nodup {kept l : List Rule} (h : (kept ++ l).Nodup) : (smallGo kept l).Nodup := by
  induction l generalizing kept with
  | nil => simpa [smallGo] using h
  | cons r l ih =>
    show (smallGo (keepR kept r) l).Nodup
    apply ih
    unfold keepR
    split
    · exact h.sublist (List.Sublist.append_left (List.sublist_cons_self _ _) _)
    · rw [List.append_assoc]
      exact h
/-- the rules strictly within are those with fewer conditions that match -/
theorem decs_inside (kept : List Rule) (c : Case) : decs (kept.filter fun o => strW o.1 c) c = decs (kept.filter fun o => decide (o.1.length < c.length)) c := by
  have e : (kept.filter fun o => strW o.1 c).filter (mat c) = (kept.filter fun o => decide (o.1.length < c.length)).filter (mat c) := by
    rw [List.filter_filter, List.filter_filter]
    congr 1
    funext o
    unfold strW mat inC
    cases decide (o.1.length < c.length) <;> cases o.1.all fun x => decide (x ∈ c) <;> rfl
  unfold decs
  rw [e]
theorem one_inside (kept : List Rule) (c : Case) (v : Int) : isOne (kept.filter fun o => strW o.1 c) c v = isOne (kept.filter fun o => decide (o.1.length < c.length)) c v := by
  unfold isOne
  rw [decs_inside]
/-- the key: the number of conditions, then the rule -/
def szK (r : Rule) : Int × Rule := ((r.1.length : Int), r)
theorem szK_inj (a b : Rule) (h : szK a = szK b) : a = b := congrArg Prod.snd h
def BySize (l : List Rule) : Prop := l.Pairwise fun x y => EncO.lt (szK y) (szK x) = false
theorem bySize_uniq {l m : List Rule} (pm : l.Perm m) (h1 : BySize l) (h2 : BySize m) : l = m := sorted_uniq szK_inj pm h1 h2
theorem lt_size {r s : Rule} (h : s.1.length < r.1.length) : EncO.lt (szK r) (szK s) = false := by
  cases z : EncO.lt (szK r) (szK s) with
  | false => rfl
  | true =>
    rw [lt_pair, lt_int] at z
    unfold szK at z
    simp only at z
    omega
theorem lt_same {r s : Rule} (h : s.1.length = r.1.length) (q : EncO.lt r s = false) : EncO.lt (szK r) (szK s) = false := by
  cases z : EncO.lt (szK r) (szK s) with
  | false => rfl
  | true =>
    rw [lt_pair, lt_int] at z
    unfold szK at z
    simp only at z
    rcases z with ⟨_, z⟩ | ⟨_, _, z⟩
    · omega
    · rw [q] at z
      cases z
/-- one size more -/
theorem bySize_more {rs done part : List Rule} {k : Nat} (pd : done.Perm (rs.filter fun r => decide (r.1.length < k))) (bd : BySize done) (pp : part.Perm (rs.filter fun r => decide (r.1.length = k))) (ap : Asc part) :
    (done ++ part).Perm (rs.filter fun r => decide (r.1.length < k + 1)) ∧ BySize (done ++ part) := by
  have hd : ∀ r ∈ done, r.1.length < k := fun r hr => of_decide_eq_true (List.mem_filter.mp (pd.mem_iff.mp hr)).2
  have hp : ∀ r ∈ part, r.1.length = k := fun r hr => of_decide_eq_true (List.mem_filter.mp (pp.mem_iff.mp hr)).2
  constructor
  · refine (pd.append pp).trans ?_
    clear pd bd pp ap hd hp
    induction rs with
    | nil => exact .refl _
    | cons r rs ih =>
      by_cases h1 : r.1.length < k
      · rw [List.filter_cons_of_pos (by simpa using h1), List.filter_cons_of_neg (by simp; omega), List.filter_cons_of_pos (by simp; omega)]
        exact ih.cons r
      · by_cases h2 : r.1.length = k
        · rw [List.filter_cons_of_neg (by simpa using h1), List.filter_cons_of_pos (by simpa using h2), List.filter_cons_of_pos (by simp; omega)]
          exact List.perm_middle.trans (ih.cons r)
        · rw [List.filter_cons_of_neg (by simpa using h1), List.filter_cons_of_neg (by simpa using h2), List.filter_cons_of_neg (by simp; omega)]
          exact ih
  · refine List.pairwise_append.mpr ⟨bd, ap.imp_of_mem fun {a b} ha hb h => lt_same (by rw [hp a ha, hp b hb]) h, fun a ha b hb => lt_size (by rw [hp b hb]; exact hd a ha)⟩
/-! ### conditions put together -/
def uStep (f : List Case) (x : Case) : List Case := f ++ ((f.filter fun o => meetC o x).map fun o => tog o x) ++ [x]
def uL (cs : List Case) : List Case := cs.foldl uStep []
theorem uL_snoc (cs : List Case) (x : Case) : uL (cs ++ [x]) = uStep (uL cs) x := by
  unfold uL
  rw [List.foldl_append]
  rfl
theorem mem_uStep {f : List Case} {x c : Case} : c ∈ uStep f x ↔ c ∈ f ∨ (∃ o ∈ f, meetC o x = true ∧ c = tog o x) ∨ c = x := by
  unfold uStep
  rw [List.mem_append, List.mem_append, List.mem_singleton, List.mem_map]
  constructor
  · rintro ((h | ⟨o, h1, rfl⟩) | h)
    · exact .inl h
    · exact .inr (.inl ⟨o, (List.mem_filter.mp h1).1, (List.mem_filter.mp h1).2, rfl⟩)
    · exact .inr (.inr h)
  · rintro (h | ⟨o, h1, h2, rfl⟩ | h)
    · exact .inl (.inl h)
    · exact .inl (.inr ⟨o, List.mem_filter.mpr ⟨h1, h2⟩, rfl⟩)
    · exact .inr h
theorem tog_ok {a b : Case} (ha : okCase a = true) (hb : okCase b = true) (h : meetC a b = true) : okCase (tog a b) = true := by
  obtain ⟨a1, a2⟩ := okCase_iff.mp ha
  obtain ⟨b1, b2⟩ := okCase_iff.mp hb
  refine okCase_iff.mpr ⟨fun x hx => ?_, tog_up a2 b2 h⟩
  rcases mem_tog.mp hx with z | z
  · exact a1 x z
  · exact b1 x z
/-- kept by putting together -/
structure Uni (f : List Case) : Prop where
  ok : ∀ c ∈ f, okCase c = true
  cl : ∀ a ∈ f, ∀ b ∈ f, meetC a b = true → tog a b ∈ f
theorem up_of {c : Case} (h : okCase c = true) : Up c := (okCase_iff.mp h).2
theorem meet_sym {a b : Case} (ha : Up a) (hb : Up b) (h : meetC a b = true) : meetC b a = true :=
  (meet_iff hb).mpr fun x hx y hy e => ((meet_iff ha).mp h y hy x hx e.symm).symm
theorem meet_sub {a b a' b' : Case} (ha : Up a) (ha' : Up a') (h1 : ∀ x ∈ a', x ∈ a) (h2 : ∀ x ∈ b', x ∈ b) (h : meetC a b = true) : meetC a' b' = true :=
  (meet_iff ha').mpr fun x hx y hy e => (meet_iff ha).mp h x (h2 x hx) y (h1 y hy) e
theorem tog_eq {a b c d : Case} (h : ∀ x, (x ∈ a ∨ x ∈ b) ↔ (x ∈ c ∨ x ∈ d)) : tog a b = tog c d := ascP_uniq (tog_asc a b) (tog_asc c d) fun x => by rw [mem_tog, mem_tog]; exact h x
theorem up_asc {c : Case} (h : Up c) : c.Pairwise ltP := h.imp fun h => .inl h
theorem tog_is {a b c : Case} (hc : Up c) (h : ∀ x, (x ∈ a ∨ x ∈ b) ↔ x ∈ c) : tog a b = c := ascP_uniq (tog_asc a b) (up_asc hc) fun x => by rw [mem_tog]; exact h x
theorem meet_tog {a b c : Case} (hab : Up (tog a b)) : meetC (tog a b) c = true ↔ (∀ x ∈ c, ∀ y, (y ∈ a ∨ y ∈ b) → y.1 = x.1 → y.2 = x.2) := by
  rw [meet_iff hab]
  constructor
  · intro h x hx y hy e
    exact h x hx y (mem_tog.mpr hy) e
  · intro h x hx y hy e
    exact h x hx y (mem_tog.mp hy) e
theorem Uni.step {f : List Case} (U : Uni f) {x : Case} (hx : okCase x = true) : Uni (uStep f x) := by
  have ux := up_of hx
  have ok' : ∀ c ∈ uStep f x, okCase c = true := fun c hc => by
    rcases mem_uStep.mp hc with h | ⟨o, h1, h2, rfl⟩ | rfl
    · exact U.ok c h
    · exact tog_ok (U.ok o h1) hx h2
    · exact hx
  refine ⟨ok', fun a ha b hb hm => ?_⟩
  have ua := up_of (ok' a ha)
  have ub := up_of (ok' b hb)
  -- one with x: o or nothing, and x
  have put : ∀ o : Case, okCase o = true → (o ∈ f) → meetC o x = true → ∀ c, c = tog o x → c ∈ uStep f x := fun o ho h1 h2 c e => mem_uStep.mpr (.inr (.inl ⟨o, h1, h2, e⟩))
  rcases mem_uStep.mp ha with ha' | ⟨o, o1, o2, rfl⟩ | rfl
  · rcases mem_uStep.mp hb with hb' | ⟨p, p1, p2, rfl⟩ | rfl
    · exact mem_uStep.mpr (.inl (U.cl a ha' b hb' hm))
    · have up := up_of (U.ok p p1)
      have mp : meetC a p = true := meet_sub ua ua (fun _ h => h) (fun y hy => mem_tog.mpr (.inl hy)) hm
      have mx : meetC a x = true := meet_sub ua ua (fun _ h => h) (fun y hy => mem_tog.mpr (.inr hy)) hm
      have h1 := U.cl a ha' p p1 mp
      have h3 : meetC (tog a p) x = true := (meet_tog (tog_up ua up mp)).mpr fun z hz y hy e => by
        rcases hy with hy | hy
        · exact (meet_iff ua).mp mx z hz y hy e
        · exact (meet_iff up).mp p2 z hz y hy e
      refine put _ (U.ok _ h1) h1 h3 _ (tog_eq fun y => ?_)
      rw [mem_tog, mem_tog]
      grind
    · exact put a (U.ok a ha') ha' hm _ rfl
  · have uo := up_of (U.ok o o1)
    rcases mem_uStep.mp hb with hb' | ⟨p, p1, p2, rfl⟩ | rfl
    · have mb : meetC o b = true := meet_sub ua uo (fun y hy => mem_tog.mpr (.inl hy)) (fun _ h => h) hm
      have mx : meetC x b = true := meet_sub ua ux (fun y hy => mem_tog.mpr (.inr hy)) (fun _ h => h) hm
      have h1 := U.cl o o1 b hb' mb
      have h3 : meetC (tog o b) x = true := (meet_tog (tog_up uo ub mb)).mpr fun z hz y hy e => by
        rcases hy with hy | hy
        · exact (meet_iff uo).mp o2 z hz y hy e
        · exact ((meet_iff ux).mp mx y hy z hz e.symm).symm
      refine put _ (U.ok _ h1) h1 h3 _ (tog_eq fun y => ?_)
      rw [mem_tog, mem_tog]
      grind
    · have up := up_of (U.ok p p1)
      have mp : meetC o p = true := meet_sub ua uo (fun y hy => mem_tog.mpr (.inl hy)) (fun y hy => mem_tog.mpr (.inl hy)) hm
      have h1 := U.cl o o1 p p1 mp
      have h3 : meetC (tog o p) x = true := (meet_tog (tog_up uo up mp)).mpr fun z hz y hy e => by
        rcases hy with hy | hy
        · exact (meet_iff uo).mp o2 z hz y hy e
        · exact (meet_iff up).mp p2 z hz y hy e
      refine put _ (U.ok _ h1) h1 h3 _ (tog_eq fun y => ?_)
      rw [mem_tog, mem_tog, mem_tog]
      grind
    · refine mem_uStep.mpr (.inr (.inl ⟨o, o1, o2, ?_⟩))
      refine tog_eq fun y => ?_
      rw [mem_tog]
      grind
  · rcases mem_uStep.mp hb with hb' | ⟨p, p1, p2, rfl⟩ | rfl
    · refine put b (U.ok b hb') hb' (meet_sym ux ub hm) _ (tog_eq fun y => ?_)
      grind
    · refine mem_uStep.mpr (.inr (.inl ⟨p, p1, p2, ?_⟩))
      refine tog_eq fun y => ?_
      rw [mem_tog]
      grind
    · refine mem_uStep.mpr (.inr (.inr ?_))
      exact tog_is ux fun y => by grind
theorem uL_uni : ∀ {cs : List Case}, (∀ c ∈ cs, okCase c = true) → Uni (uL cs) := by
  intro cs
  have key : ∀ (l f : List Case), Uni f → (∀ c ∈ l, okCase c = true) → Uni (l.foldl uStep f) := by
    intro l
    induction l with
    | nil => intro f U _; exact U
    | cons x l ih => intro f U h; exact ih (uStep f x) (U.step (h x List.mem_cons_self)) fun c hc => h c (List.mem_cons_of_mem _ hc)
  intro h
  exact key cs [] ⟨fun c hc => (by cases hc), fun a ha => (by cases ha)⟩ h
/-! ### lists that are settled by their making -/
theorem same_in {a b : Case} (ha : Up a) (hb : Up b) (h1 : inC a b = true) (h2 : inC b a = true) : a = b :=
  ascP_uniq (up_asc ha) (up_asc hb) fun x => ⟨fun h => inC_iff.mp h1 x h, fun h => inC_iff.mp h2 x h⟩
/-- within, and not fewer: the same -/
theorem in_full {a b : Case} (ha : Up a) (hb : Up b) (h : inC a b = true) (hl : b.length ≤ a.length) : a = b := by
  have sub : ∀ x ∈ a, x ∈ b := inC_iff.mp h
  have nd := up_nodup ha
  have : ∀ x ∈ b, x ∈ a := fun x hx => Classical.byContradiction fun n => by
    have h2 := nodup_len (a := x :: a) (b := b) (List.nodup_cons.mpr ⟨n, nd⟩) fun y hy => by
      rcases List.mem_cons.mp hy with rfl | hy
      · exact hx
      · exact sub y hy
    rw [List.length_cons] at h2
    omega
  exact same_in ha hb h (inC_iff.mpr this)
theorem in_strict {a b : Case} (ha : Up a) (hb : Up b) (h : inC a b = true) (ne : a ≠ b) : strW a b = true := by
  unfold strW
  rw [h, Bool.and_true, decide_eq_true_eq]
  exact Classical.byContradiction fun n => ne (in_full ha hb h (by omega))
theorem closed_set {rs : List Rule} (ok : ∀ r ∈ rs, okRule r = true) (one : ∀ r ∈ rs, ∀ s ∈ rs, r.1 = s.1 → r = s) (cl : ∀ r ∈ rs, ∀ s ∈ rs, meetC r.1 s.1 = true → ∃ z ∈ rs, z.1 = tog r.1 s.1) : areSet rs = true := by
  have up : ∀ r ∈ rs, Up r.1 := fun r hr => up_of (rule_ok.mp (ok r hr)).1
  refine (areSet_iff up).mpr fun r hr s hs ho => ?_
  unfold oppC at ho
  simp only [Bool.and_eq_true, decide_eq_true_eq, Bool.not_eq_true'] at ho
  obtain ⟨h1, h2, h3, h4⟩ := ho
  obtain ⟨z, hz, e⟩ := cl r hr s hs h2
  have ut := tog_up (up r hr) (up s hs) h2
  have rin : inC r.1 (tog r.1 s.1) = true := inC_iff.mpr fun x hx => mem_tog.mpr (.inl hx)
  refine ⟨z, hz, ?_⟩
  unfold setC
  rw [e, inC_refl, Bool.true_and, Bool.or_eq_true]
  refine .inl (in_strict (up r hr) ut rin fun q => ?_)
  have sin : inC s.1 r.1 = true := inC_iff.mpr fun x hx => by rw [q]; exact mem_tog.mpr (.inr hx)
  have ne : s.1 ≠ r.1 := fun q2 => h1 (by rw [one s hs r hr q2])
  rw [in_strict (up s hs) (up r hr) sin ne] at h4
  cases h4
theorem chain_set {rs : List Rule} (ok : ∀ r ∈ rs, okRule r = true) (h : ∀ r ∈ rs, ∀ s ∈ rs, r = s ∨ strW r.1 s.1 = true ∨ strW s.1 r.1 = true) : areSet rs = true := by
  have up : ∀ r ∈ rs, Up r.1 := fun r hr => up_of (rule_ok.mp (ok r hr)).1
  refine (areSet_iff up).mpr fun r hr s hs ho => ?_
  unfold oppC at ho
  simp only [Bool.and_eq_true, decide_eq_true_eq, Bool.not_eq_true'] at ho
  obtain ⟨h1, h2, h3, h4⟩ := ho
  rcases h r hr s hs with rfl | q | q
  · exact absurd rfl h1
  · rw [q] at h3; cases h3
  · rw [q] at h4; cases h4
end DL
/-! DW2: comprehensions over a list that changes, but not meanwhile; pens. -/
namespace DL
open PySem PySem.Spec PyProof.Rows L2
/-- the list at p stays l -/
def lcGoM (p : Addr) (l : List Dd) (t : Tg) (wt : WT) (we : DL.WE) (sl : DS) (Q : List Dd → MS → Prop) : List Dd → List Dd → MS → Prop
  | [], acc, M => M p = some (.lst l) ∧ Q acc M
  | d :: ds, acc, M => M p = some (.lst l) ∧ t.put d sl fun sl1 => wt sl1 M (fun b M1 => if b = true then we sl1 M1 (fun y M2 => acc.length < 90000 ∧ lcGoM p l t wt we sl Q ds (acc ++ [y]) M2) X0 else lcGoM p l t wt we sl Q ds acc M1) X0
theorem lcGoM_at {p : Addr} {l : List Dd} {t : Tg} {wt : WT} {we : DL.WE} {sl : DS} {Q : List Dd → MS → Prop} {ds acc : List Dd} {M : MS} (h : lcGoM p l t wt we sl Q ds acc M) : M p = some (.lst l) := by
  cases ds <;> exact h.1
def wLcM (wi : DL.WE) (t : Tg) (wt : WT) (we : DL.WE) (vs : List Nat) : DL.WE := fun sl M Q E => wi sl M (fun d M1 => ∃ p l, d = .raw (.ref p) ∧ lcGoM p l t wt we (wipeD sl vs) (fun acc M2 => Q (.lst acc) M2) l [] M1) E
/-- what is walked: a list that changes -/
def lowIM (K : PySem.W.Frag) (W : WX) (w : DL.WE) : TI := fun σ H R => ∃ sl Hf M Qd Xd, Rl sl Hf M σ H ∧ w sl M Qd Xd ∧
  (∀ p l Hf' M' H', Stp Hf M H Hf' M' H' → M' p = some (.lst l) → Qd (.raw (.ref p)) M' → R (Itl K p) H') ∧ (∀ p Hf' M' H', Stp Hf M H Hf' M' H' → Qd (.raw (.ref p)) M' → ∃ l, M' p = some (.lst l)) ∧ (∀ d Hf' M' H', Stp Hf M H Hf' M' H' → Qd d M' → ∃ p, d = .raw (.ref p)) ∧ (∀ c Hf' M' H', Stp Hf M H Hf' M' H' → Xd c M' → W c none σ H')
section
variable {X : Cx} {W : WX} {pos : Pos}
theorem i_mut {tg l : Expr} {we : DL.WE} (hl : PE X l (low W we)) : PI X tg l (lowIM X.K W we) := by
  refine PI.imp (pi_list hl) fun σ H R ⟨sl, Hf, M, Qd, Xd, rl, w, k, kl, kd, kx⟩ => ⟨sl, Hf, M, _, Xd, rl, w, fun d Hf1 M1 v H1 s1 r1 w1 => ?_, kx⟩
  obtain ⟨p, rfl⟩ := kd d Hf1 M1 H1 s1 w1
  cases r1
  obtain ⟨ds, hd⟩ := kl p Hf1 M1 H1 s1 w1
  obtain ⟨xs, hx, _⟩ := s1.wd.ok p _ hd
  exact ⟨p, rfl, ⟨xs, .of hx⟩, k p ds Hf1 M1 H1 s1 hd w1⟩
theorem low_lcM {wi : DL.WE} {t : Tg} {wt : WT} {we : DL.WE} {vs : List Nat} {K : PySem.W.Frag} (hv : ∀ i ∈ t.idx, i ∈ vs) : ∀ σ H Q, low W (wLcM wi t wt we vs) σ H Q → tLc (lowIM K W wi) (t.tg K) (lowT W0 wt) (low W0 we) vs σ H Q := by
  rintro σ H Q ⟨sl, Hf, M, Qd, Xd, rl, w, k, kx⟩
  refine ⟨sl, Hf, M, _, Xd, rl, w, fun p l0 Hf1 M1 H1 s1 hm0 w1 D hD => ?_, fun p Hf1 M1 H1 s1 w1 => ?_, fun d Hf1 M1 H1 s1 w1 => ?_, kx⟩
  rotate_left
  · obtain ⟨p', l, e, w1⟩ := w1
    cases e
    exact ⟨l, lcGoM_at w1⟩
  · obtain ⟨p', l, e, w1⟩ := w1
    exact ⟨p', e⟩
  obtain ⟨p', ds, e, w1⟩ := w1
  cases e
  have go : ∀ (i : Nat) (M2 : MS) (Hf2 H2 : Hp), Wd Hf2 M2 H2 → M2 p = some (.lst ds) → ∃ xs, H2 p = some (.lst xs) ∧ RepAll Hf2 xs ds := fun i M2 Hf2 H2 wd hm => wd.ok p _ hm
  refine ⟨fun i m H => m = ds.length - i ∧ i ≤ ds.length ∧ ∃ Hf2 M2 acc xs, Stp Hf1 M1 H1 Hf2 M2 H ∧ Hf2 D = none ∧ M2 D = none ∧ H D = some (.lst xs) ∧ RepAll Hf2 xs acc ∧ lcGoM p ds t wt we (wipeD sl vs) (fun acc M2 => Qd (.lst acc) M2) (ds.drop i) acc M2, ⟨ds.length, by simp, Nat.zero_le _, Hf1, M1, [], [], ?_, (s1.wd.free hD).2, (s1.wd.free hD).1, upd_same, .nil, by simpa using w1⟩, ?_⟩
  · exact (Stp.refl s1.wd).other hD (s1.wd.free hD).2 (s1.wd.free hD).1
  rintro i m H2 ⟨rfl, hi, Hf2, M2, acc, xs, st2, f2, m2, h2, r2, g2⟩
  obtain ⟨zs, hz, rz⟩ := go i M2 Hf2 H2 st2.wd (lcGoM_at g2)
  have ww : Walk (Itl K p) zs.length (fun H => SqL K H p zs) (YAt zs) := walk_list
  by_cases hlt : i < ds.length
  · refine .inr ⟨ww.goes i H2 (by rw [rz.length]; exact hlt) (.of hz), fun H => ∃ Hf2 M2 acc xs, Stp Hf1 M1 H1 Hf2 M2 H ∧ Hf2 D = none ∧ M2 D = none ∧ H D = some (.lst xs) ∧ RepAll Hf2 xs acc ∧ lcGoM p ds t wt we (wipeD sl vs) (fun acc M2 => Qd (.lst acc) M2) (ds.drop (i + 1)) acc M2, fun H' h => ⟨ds.length - (i + 1), by omega, rfl, hlt, h⟩, fun x H3 y => ?_⟩
    obtain ⟨rfl, y2⟩ := ww.yields i H2 x H3 (by rw [rz.length]; exact hlt) (.of hz) y
    obtain ⟨d, hd, rd⟩ := rz.get y2
    rw [List.drop_eq_getElem_cons hlt] at g2
    have ed : ds[i] = d := by
      rw [List.getElem?_eq_getElem hlt] at hd
      exact Option.some.inj hd
    rw [ed] at g2
    have rl3 : Rl (wipeD sl vs) Hf2 M2 (L2.wipe σ vs) H3 := (rl.step (s1.trans st2)).wipe vs
    refine Tg.takesW hv rl3 rd g2.2 fun sl' σ' r' hw' q' => ⟨?_, ?_⟩
    · rw [hw', wipe_wipe]
    refine ⟨sl', Hf2, M2, _, _, r', q', fun b Hf4 M4 H4 s4 w4 => ?_, fun c _ _ _ _ z => z⟩
    obtain ⟨d4, f4, m4⟩ := s4.fr D _ f2 m2 h2
    have st4 : Stp Hf1 M1 H1 Hf4 M4 H4 := st2.trans s4
    cases b with
    | false => exact ⟨Hf4, M4, acc, xs, st4, f4, m4, d4, r2.mono s4.up, w4⟩
    | true =>
      refine ⟨sl', Hf4, M4, _, _, r'.step s4, w4, fun yd Hf5 M5 yv H5 s5 r5 ⟨hz, w5⟩ => ?_, fun c _ _ _ _ z => z⟩
      obtain ⟨d5, f5, m5⟩ := s5.fr D _ f4 m4 d4
      have r25 : RepAll Hf5 xs acc := r2.mono (s4.up.trans s5.up)
      exact ⟨xs, d5, by rw [r25.length]; exact sz5lt (by omega), Hf5, M5, acc ++ [yd], xs ++ [yv], (st4.trans s5).other hD f5 m5, f5, m5, upd_same, r25.append (.cons r5 .nil), w5⟩
  · have e : i = ds.length := by omega
    subst e
    rw [List.drop_length] at g2
    refine .inl ⟨by rw [← rz.length]; exact ww.stops H2 (.of hz), ?_⟩
    exact k (.lst acc) _ M2 (.ref D) H2 (s1.trans (st2.adopt hD f2 m2 h2)) (.lst upd_same (r2.mono (same_new f2))) g2.2
theorem d_lcM {elt tg iter : Expr} {ifs : List Expr} {scope : Scope} {own : List (Str × Nat)} {wi : DL.WE} {t : Tg} {wt : WT} {we : DL.WE} (hc : X.calm = true) (hN : X.N.Nodup) (hi : PI X tg iter (lowIM X.K W wi)) (ok : BlkOk X.N X.env.scope scope own)
    (hg : ∀ (s : Shared) (H : Hp) (C : Addr) (cl : List (Str × Addr)) (fp : List Addr), PG (X.blk s H scope (compEnvC scope cl C X.env) fp) tg (t.tg X.K)) (ht : ∀ (s : Shared) (H : Hp) (C : Addr) (cl : List (Str × Addr)) (fp : List Addr), PTs (X.blk s H scope (compEnvC scope cl C X.env) fp) ifs (lowT W0 wt))
    (he : ∀ (s : Shared) (H : Hp) (C : Addr) (cl : List (Str × Addr)) (fp : List Addr), PE (X.blk s H scope (compEnvC scope cl C X.env) fp) elt (low W0 we)) (hv : (t.idx.all fun i => (own.map (·.2)).contains i) = true := by rfl) (hs : ∀ x, foldedSetIterable iter X.env x = pure x := by intro _; rfl) :
    PE X (.ListComp elt [⟨tg, iter, ifs, 0⟩] scope pos) (low W (wLcM wi t wt we (own.map (·.2)))) :=
  PE.imp (pe_lc hc hN hi ok hg ht he hs) (low_lcM fun i h => by simpa using List.all_eq_true.mp hv i h)
theorem s_setLcM {i : Nat} {y : Str} {py spos : Pos} {elt tg iter : Expr} {ifs : List Expr} {scope : Scope} {own : List (Str × Nat)} {wi : DL.WE} {t : Tg} {wt : WT} {we : DL.WE} (hc : X.calm = true) (hN : X.N.Nodup) (hy : X.N[i]? = some y) (hyl : X.env.scope.names.lookup y = some .local)
    (hsw : swapsWith (.ListComp elt [⟨tg, iter, ifs, 0⟩] scope pos) (some (.Name y py)) spos.line X.env = pure true) (hi : PI X tg iter (lowIM X.K W wi)) (ok : BlkOk X.N X.env.scope scope own)
    (hg : ∀ (s : Shared) (H : Hp) (C : Addr) (cl : List (Str × Addr)) (fp : List Addr), PG (X.blk s H scope (compEnvC scope cl C X.env) fp) tg (t.tg X.K)) (ht : ∀ (s : Shared) (H : Hp) (C : Addr) (cl : List (Str × Addr)) (fp : List Addr), PTs (X.blk s H scope (compEnvC scope cl C X.env) fp) ifs (lowT W0 wt))
    (he : ∀ (s : Shared) (H : Hp) (C : Addr) (cl : List (Str × Addr)) (fp : List Addr), PE (X.blk s H scope (compEnvC scope cl C X.env) fp) elt (low W0 we)) (hv : (t.idx.all fun i => (own.map (·.2)).contains i) = true := by rfl) (hs : ∀ x, foldedSetIterable iter X.env x = pure x := by intro _; rfl) :
    PS X (.Assign [.Name y py] (.ListComp elt [⟨tg, iter, ifs, 0⟩] scope pos) spos) (lowS W (wSet i (wLcM wi t wt we (own.map (·.2))))) :=
  PS.imp (ps_setLc hc hN hy hyl hsw hi ok hg ht he hs) fun D σ H ⟨sl, Hf, M, E, rl, w, k1, k2, k3, k4, k5⟩ =>
    low_lcM (W := W) (fun i h => by simpa using List.all_eq_true.mp hv i h) σ H _ (low_in (E := E) (Qd := fun d M1 => E.nx (sl.set i (some d)) M1) rl w k5 fun d Hf1 M1 v H1 s1 r1 q => k1 _ Hf1 M1 _ H1 s1 ((rl.step s1).set i r1) q)
/-- without effects -/
theorem lcGoM_all {α : Type} {p0 : Addr} {l : List Dd} {t : Tg} {wt : WT} {we : DL.WE} {sl : DS} {Q : List Dd → MS → Prop} {M : MS} {f : α → Dd} {p : α → Bool} {g : α → Dd} (hm : M p0 = some (.lst l)) : ∀ {xs : List α} {acc : List Dd},
    (∀ x ∈ xs, ∀ (F : Dd → MS → Prop) (G : MS → Prop), (if p x = true then F (g x) M else G M) → t.put (f x) sl fun sl1 => wt sl1 M (fun b M1 => if b = true then we sl1 M1 F X0 else G M1) X0) →
    acc.length + xs.length ≤ 90000 → Q (acc ++ (xs.filter p).map g) M → lcGoM p0 l t wt we sl Q (xs.map f) acc M
  | [], acc, _, _, q => ⟨hm, by simpa using q⟩
  | x :: xs, acc, h, hl, q => by
    rw [List.length_cons] at hl
    refine ⟨hm, h x List.mem_cons_self _ _ ?_⟩
    by_cases c : p x = true
    · rw [if_pos c]
      refine ⟨by omega, lcGoM_all hm (fun z hz => h z (List.mem_cons_of_mem _ hz)) (by simp; omega) ?_⟩
      rw [List.filter_cons_of_pos c] at q
      simpa using q
    · rw [if_neg c]
      refine lcGoM_all hm (fun z hz => h z (List.mem_cons_of_mem _ hz)) (by omega) ?_
      rw [List.filter_cons_of_neg c] at q
      exact q
end
/-! ### pens: a list of three numbers, the last of which counts -/
def P3 (n : Nat) (M : MS) (p : Addr) : Prop := ∃ a b c : Int, M p = some (.lst [.int a, .int b, .int c]) ∧ 0 ≤ b ∧ b < 1000000007 ∧ 0 ≤ c ∧ c ≤ n
def Ph (n : Nat) (p : Addr) (M M' : MS) : Prop := P3 n M' p ∧ ∀ a mo, a ≠ p → M a = some mo → M' a = some mo
theorem P3.mono {n k : Nat} {M : MS} {p : Addr} (h : P3 n M p) (q : n ≤ k) : P3 k M p := by
  obtain ⟨a, b, c, e, h1, h2, h3, h4⟩ := h
  exact ⟨a, b, c, e, h1, h2, h3, by omega⟩
theorem P3.ne {n : Nat} {M : MS} {p q : Addr} (h : P3 n M p) (hq : M q = none) : q ≠ p := fun e => by
  obtain ⟨a, b, c, h, _⟩ := h
  rw [e, h] at hq
  cases hq
theorem P3.fr {n : Nat} {M M' : MS} {p : Addr} (h : P3 n M p) (f : Fr M M') : P3 n M' p := by
  obtain ⟨a, b, c, e, r⟩ := h
  exact ⟨a, b, c, f _ _ e, r⟩
theorem P3.upd {n : Nat} {M : MS} {p q : Addr} {mo : MO} (h : P3 n M p) (ne : q ≠ p) : P3 n (updM M q mo) p := by
  obtain ⟨a, b, c, e, r⟩ := h
  exact ⟨a, b, c, by rw [updM_ne (Ne.symm ne)]; exact e, r⟩
theorem P3.del {n : Nat} {M : MS} {p q : Addr} (h : P3 n M p) (ne : q ≠ p) : P3 n (delM M q) p := by
  obtain ⟨a, b, c, e, r⟩ := h
  exact ⟨a, b, c, by rw [delM_ne (Ne.symm ne)]; exact e, r⟩
theorem Ph.refl {n : Nat} {p : Addr} {M : MS} (h : P3 n M p) : Ph n p M M := ⟨h, fun _ _ _ e => e⟩
theorem Ph.trans {n k : Nat} {p : Addr} {M M' M'' : MS} (h : Ph n p M M') (g : Ph k p M' M'') : Ph k p M M'' := ⟨g.1, fun a mo ne e => g.2 a mo ne (h.2 a mo ne e)⟩
theorem Ph.mono {n k : Nat} {p : Addr} {M M' : MS} (h : Ph n p M M') (q : n ≤ k) : Ph k p M M' := ⟨h.1.mono q, h.2⟩
theorem Ph.fr {n : Nat} {p : Addr} {M M' M'' : MS} (h : Ph n p M M') (f : Fr M' M'') : Ph n p M M'' := ⟨h.1.fr f, fun a mo ne e => f _ _ (h.2 a mo ne e)⟩
theorem Ph.new {n : Nat} {p q : Addr} {M M' : MS} {mo : MO} (h : Ph n p M M') (hq : M' q = none) : Ph n p M (updM M' q mo) := h.fr (Fr.new hq)
theorem Ph.upd {n : Nat} {p q : Addr} {M M' : MS} {mo : MO} (h : Ph n p M M') (hq : M q = none) (ne : q ≠ p) : Ph n p M (updM M' q mo) := by
  refine ⟨h.1.upd ne, fun a m ha e => ?_⟩
  have : a ≠ q := fun z => by rw [z, hq] at e; cases e
  rw [updM_ne this]
  exact h.2 a m ha e
theorem Ph.del {n : Nat} {p q : Addr} {M M' : MS} (h : Ph n p M M') (hq : M q = none) (ne : q ≠ p) : Ph n p M (delM M' q) := by
  refine ⟨h.1.del ne, fun a m ha e => ?_⟩
  have : a ≠ q := fun z => by rw [z, hq] at e; cases e
  rw [delM_ne this]
  exact h.2 a m ha e
end DL
/-! DW3: list(xs) that will change; small things. -/
namespace DL
open PySem PySem.Spec PyProof.Rows L2 Enc
section
variable {X : Cx} {W : WX} {e : Expr} {pos p : Pos}
/-- list(xs): a list that will change -/
def wListN (wr : WA) : DL.WE := fun sl M Q E => wr sl M (fun ds M1 => ∃ xs, seqOf (ds.map (der M1)) = some xs ∧ ∀ p, M1 p = none → Q (.raw (.ref p)) (updM M1 p (.lst xs))) E
theorem d_listN {wr : WA} (hg : Gl X "list") (hm : X.mg "list" = none) (ha : PA X [e] (lowA W wr))
    (he : starEach [e] X.env = (false, eval e X.env) :: starEach [] X.env := by rfl) (hp : (backTo pos (starEach [] X.env)).any (·.1) = false := by rfl) : PE X (.Call (.Name "list" p) [e] [] pos) (low W (wListN wr)) := by
  refine PE.imp (pe_callTy call_list_of hg hm (by kernel_rfl) ha (by decide) (by decide) he hp) fun σ H Q ⟨sl, Hf, M, Qd, Xd, rl, w, k, kx⟩ => ⟨sl, Hf, M, _, Xd, rl, w, fun ds Hf1 M1 vs H1 s1 r1 w1 => ?_, kx⟩
  obtain ⟨xs, ed, q⟩ := w1
  have rt := RepTs.of s1.wd r1
  have fin : ∀ (l : Addr) (us : List V), H1 l = none → RepAll Hf1 us xs → Q (.ref l) (upd H1 l (.lst us)) := fun l us hl ra =>
    k (.raw (.ref l)) Hf1 _ (.ref l) _ (s1.trans (Stp.write (mo := .lst xs) s1.wd (.inr hl) ⟨us, upd_same, ra⟩)) (.raw _) (q l (s1.wd.free hl).1)
  generalize ds.map (der M1) = es at ed rt
  unfold seqOf at ed
  split at ed
  · cases ed
    obtain ⟨v, rfl, h⟩ := rt.one
    obtain ⟨a, us, rfl, ha, r⟩ := h.lst s1.wd.le
    exact ⟨a, us, rfl, .inl (.of ha), fun l hl => fin l us hl r⟩
  · cases ed
    obtain ⟨v, rfl, h⟩ := rt.one
    obtain ⟨a, us, rfl, ha, r⟩ := h.tup
    exact ⟨a, us, rfl, .inr (.inl (rd_mono s1.wd.le ha)), fun l hl => fin l us hl r⟩
  · cases ed
end
/-- a list or a tuple is walked -/
theorem isq {i : Nat} {d : Dd} {l : List Dd} {sl : DS} {M : MS} {Q : List Dd → MS → Prop} {E : XD} (h : sl[i]? = some (some d)) (hd : d = .tup l ∨ d = .lst l) (q : Q l M) : wISq (wVar i) sl M Q E := by
  rcases hd with rfl | rfl
  · exact .inr ⟨_, h, _, rfl, q⟩
  · exact .inl ⟨_, h, _, rfl, q⟩
theorem g_catL {xs ys : List Dd} (h : xs.length + ys.length ≤ 100000) : gAdd (.lst xs) (.lst ys) = some (.lst (xs ++ ys)) := if_pos h
theorem g_catT {xs ys : List Dd} (h : xs.length + ys.length ≤ 100000) : gAdd (.tup xs) (.tup ys) = some (.tup (xs ++ ys)) := if_pos h
/-! ### unions -/
theorem mem_uStep_congr {f g : List Case} (h : ∀ c, c ∈ f ↔ c ∈ g) {x c : Case} : c ∈ uStep f x ↔ c ∈ uStep g x := by
  rw [mem_uStep, mem_uStep, h]
  constructor
  · rintro (a | ⟨o, o1, o2⟩ | a)
    · exact .inl a
    · exact .inr (.inl ⟨o, (h o).mp o1, o2⟩)
    · exact .inr (.inr a)
  · rintro (a | ⟨o, o1, o2⟩ | a)
    · exact .inl a
    · exact .inr (.inl ⟨o, (h o).mpr o1, o2⟩)
    · exact .inr (.inr a)
theorem uL_len (cs : List Case) : (uL cs).length + 1 ≤ 2 ^ cs.length := by
  have key : ∀ (l f : List Case) (k : Nat), f.length + 1 ≤ 2 ^ k → (l.foldl uStep f).length + 1 ≤ 2 ^ (k + l.length) := by
    intro l
    induction l with
    | nil => intro f k h; exact h
    | cons x l ih =>
      intro f k h
      have h2 : (uStep f x).length + 1 ≤ 2 ^ (k + 1) := by
        unfold uStep
        simp only [List.length_append, List.length_map, List.length_singleton]
        have := List.length_filter_le (fun o => meetC o x) f
        rw [Nat.pow_succ]
        omega
      have := ih (uStep f x) (k + 1) h2
      rw [List.length_cons]
      rw [show k + (l.length + 1) = k + 1 + l.length by omega]
      exact this
  have := key cs [] 0 (by decide)
  rwa [Nat.zero_add] at this
/-- something of the list lies within -/
theorem uL_base {cs : List Case} : ∀ c ∈ uL cs, ∃ x ∈ cs, inC x c = true := by
  have key : ∀ (l f g : List Case), (∀ c ∈ f, ∃ x ∈ g, inC x c = true) → ∀ c ∈ l.foldl uStep f, ∃ x ∈ g ++ l, inC x c = true := by
    intro l
    induction l with
    | nil => intro f g h c hc; simpa using h c hc
    | cons y l ih =>
      intro f g h c hc
      have := ih (uStep f y) (g ++ [y]) (fun d hd => ?_) c hc
      · simpa using this
      · rcases mem_uStep.mp hd with a | ⟨o, o1, o2, rfl⟩ | rfl
        · obtain ⟨x, hx, e⟩ := h d a
          exact ⟨x, List.mem_append_left _ hx, e⟩
        · obtain ⟨x, hx, e⟩ := h o o1
          exact ⟨x, List.mem_append_left _ hx, inC_iff.mpr fun z hz => mem_tog.mpr (.inl (inC_iff.mp e z hz))⟩
        · exact ⟨d, by simp, inC_refl d⟩
  intro c hc
  simpa using key cs [] [] (fun c hc => by cases hc) c hc
theorem nodup_sub_len {U V : List Case} (nd : U.Nodup) (h : ∀ c ∈ U, c ∈ V) : U.length ≤ V.length := nodup_len nd h
end DL
/-! DP8: settled lists and the smallest ones, plainly. -/
namespace DL
open PySem PySem.Spec PyProof.Rows L2 Enc TL
theorem mat_in {c : Case} {r : Rule} : mat c r = inC r.1 c := rfl
theorem str_in {a b : Case} (h : strW a b = true) : inC a b = true ∧ a.length < b.length := by
  unfold strW at h
  rw [Bool.and_eq_true, decide_eq_true_eq] at h
  exact ⟨h.2, h.1⟩
theorem str_of {a b : Case} (h1 : inC a b = true) (h2 : a.length < b.length) : strW a b = true := by
  unfold strW
  rw [h1, decide_eq_true h2]
  rfl
theorem str_trans {a b c : Case} (h1 : strW a b = true) (h2 : inC b c = true) (h3 : b.length ≤ c.length) : strW a c = true := str_of (inC_trans (str_in h1).1 h2) (by have := (str_in h1).2; omega)
/-- a rule of the list that matches lies below one that decides -/
theorem decs_above {rs : List Rule} {c : Case} : ∀ (n : Nat) (r : Rule), r ∈ rs → mat c r = true → c.length < r.1.length + n → (∀ o ∈ rs, mat c o = true → o.1.length ≤ c.length) → ∃ d ∈ decs rs c, d = r ∨ strW r.1 d.1 = true
  | 0, r, h1, h2, h3, h4 => by have := h4 r h1 h2; omega
  | n + 1, r, h1, h2, h3, h4 => by
    by_cases h : ∃ o ∈ rs, mat c o = true ∧ strW r.1 o.1 = true
    · obtain ⟨o, o1, o2, o3⟩ := h
      have ol := (str_in o3).2
      obtain ⟨d, d1, d2⟩ := decs_above n o o1 o2 (by omega) h4
      refine ⟨d, d1, .inr ?_⟩
      rcases d2 with rfl | d2
      · exact o3
      · exact str_trans o3 (str_in d2).1 (Nat.le_of_lt (str_in d2).2)
    · refine ⟨r, mem_decs.mpr ⟨h1, h2, fun o o1 o2 => ?_⟩, .inl rfl⟩
      cases z : strW r.1 o.1 with
      | false => rfl
      | true => exact absurd ⟨o, o1, o2, z⟩ h
theorem above {rs : List Rule} {c : Case} (up : ∀ r ∈ rs, Up r.1) {r : Rule} (h1 : r ∈ rs) (h2 : mat c r = true) : ∃ d ∈ decs rs c, d = r ∨ strW r.1 d.1 = true :=
  decs_above (c.length + 1) r h1 h2 (by omega) fun o o1 o2 => sub_len (up_nodup (up o o1)) o2
/-- no case has two results -/
def OneRes (rs : List Rule) : Prop := ∀ c, okCase c = true → ∀ r ∈ decs rs c, ∀ s ∈ decs rs c, r.2 = s.2
theorem set_one {rs : List Rule} (ok : ∀ r ∈ rs, okRule r = true) (h : areSet rs = true) : OneRes rs := by
  intro c hc r hr s hs
  have up : ∀ r ∈ rs, Up r.1 := fun r hr => up_of (rule_ok.mp (ok r hr)).1
  have uc := up_of hc
  apply Classical.byContradiction
  intro ne
  obtain ⟨r1, r2, r3⟩ := mem_decs.mp hr
  obtain ⟨s1, s2, s3⟩ := mem_decs.mp hs
  have ho : oppC r s = true := by
    unfold oppC
    rw [r3 s s1 s2, s3 r r1 r2, decide_eq_true ne, (meet_iff (up r r1)).mpr fun x hx y hy e => by
      have := up_one uc (inC_iff.mp r2 y hy) (inC_iff.mp s2 x hx) e
      rw [this]]
    rfl
  obtain ⟨z, hz, hs⟩ := (areSet_iff up).mp h r r1 s s1 ho
  unfold setC at hs
  rw [Bool.and_eq_true, Bool.or_eq_true] at hs
  have zc : mat c z = true := inC_iff.mpr fun x hx => by
    rcases mem_tog.mp (inC_iff.mp hs.1 x hx) with h | h
    · exact inC_iff.mp r2 x h
    · exact inC_iff.mp s2 x h
  rcases hs.2 with h | h
  · rw [r3 z hz zc] at h; cases h
  · rw [s3 z hz zc] at h; cases h
/-- two opposed rules that none settles decide both for them put together -/
theorem opp_both {rs : List Rule} (ok : ∀ r ∈ rs, okRule r = true) {r s : Rule} (hr : r ∈ rs) (hs : s ∈ rs) (ho : oppC r s = true) (no : ∀ z ∈ rs, setC z r s = false) : okCase (tog r.1 s.1) = true ∧ r ∈ decs rs (tog r.1 s.1) ∧ s ∈ decs rs (tog r.1 s.1) ∧ r.2 ≠ s.2 := by
  unfold oppC at ho
  simp only [Bool.and_eq_true, decide_eq_true_eq, Bool.not_eq_true'] at ho
  obtain ⟨h1, h2, h3, h4⟩ := ho
  have no2 : ∀ z ∈ rs, mat (tog r.1 s.1) z = true → strW r.1 z.1 = false ∧ strW s.1 z.1 = false := fun z hz hm => by
    have := no z hz
    unfold setC at this
    rw [show inC z.1 (tog r.1 s.1) = true from hm, Bool.true_and, Bool.or_eq_false_iff] at this
    exact this
  refine ⟨tog_ok (rule_ok.mp (ok r hr)).1 (rule_ok.mp (ok s hs)).1 h2, mem_decs.mpr ⟨hr, inC_iff.mpr fun x hx => mem_tog.mpr (.inl hx), fun o o1 o2 => (no2 o o1 o2).1⟩, mem_decs.mpr ⟨hs, inC_iff.mpr fun x hx => mem_tog.mpr (.inr hx), fun o o1 o2 => (no2 o o1 o2).2⟩, h1⟩
theorem one_set {rs : List Rule} (ok : ∀ r ∈ rs, okRule r = true) (h : OneRes rs) : areSet rs = true := by
  have up : ∀ r ∈ rs, Up r.1 := fun r hr => up_of (rule_ok.mp (ok r hr)).1
  refine (areSet_iff up).mpr fun r hr s hs ho => ?_
  apply Classical.byContradiction
  intro no
  obtain ⟨h1, h2, h3, h4⟩ := opp_both ok hr hs ho fun z hz => by
    cases q : setC z r s with
    | false => rfl
    | true => exact absurd ⟨z, hz, q⟩ no
  exact h4 (h _ h1 r h2 s h3)
/-! ### the smallest list -/
/-- what is kept does not hang on what comes later -/
theorem small_char {l : List Rule} (bs : BySize l) (nd : l.Nodup) : ∀ r, r ∈ smallGo [] l ↔ r ∈ l ∧ isOne ((smallGo [] l).filter fun o => strW o.1 r.1) r.1 r.2 = false := by
  have key : ∀ (done rest : List Rule), BySize (done ++ rest) → (done ++ rest).Nodup → (∀ r, r ∈ smallGo [] done ↔ r ∈ done ∧ isOne ((smallGo [] done).filter fun o => strW o.1 r.1) r.1 r.2 = false) →
      ∀ r, r ∈ smallGo [] (done ++ rest) ↔ r ∈ done ++ rest ∧ isOne ((smallGo [] (done ++ rest)).filter fun o => strW o.1 r.1) r.1 r.2 = false := by
    intro done rest
    induction rest generalizing done with
    | nil => intro _ _ h; simpa using h
    | cons z rest ih =>
      intro bs nd h
      have e : done ++ z :: rest = (done ++ [z]) ++ rest := by simp
      rw [e] at bs nd ⊢
      refine ih (done ++ [z]) bs nd fun r => ?_
      have bz : ∀ o ∈ done, o.1.length ≤ z.1.length := fun o ho => by
        have q0 := (List.pairwise_append.mp (List.pairwise_append.mp bs).1).2.2 o ho z List.mem_cons_self
        apply Classical.byContradiction
        intro n
        have q1 : EncO.lt (szK z) (szK o) = true := by
          rw [lt_pair, lt_int]
          unfold szK
          simp only
          left
          omega
        rw [q1] at q0
        cases q0
      have nz : z ∉ done := fun hz => by
        have := (List.nodup_append.mp (List.nodup_append.mp nd).1).2.2 z hz z List.mem_cons_self
        exact this rfl
      have sg : smallGo [] (done ++ [z]) = keepR (smallGo [] done) z := by rw [small_app, DL.small_one]
      have sub : ∀ o ∈ smallGo [] done, o ∈ done := fun o ho => (small_sub ho).resolve_left (by intro h; cases h)
      have fl : ∀ x : Rule, x.1.length ≤ z.1.length → (smallGo [] (done ++ [z])).filter (fun o => strW o.1 x.1) = (smallGo [] done).filter fun o => strW o.1 x.1 := fun x hx => by
        rw [sg]
        unfold keepR
        split
        · rfl
        · rw [List.filter_append, List.filter_cons_of_neg, List.filter_nil, List.append_nil]
          intro q
          have := (str_in q).2
          omega
      by_cases hr : r = z
      · subst hr
        rw [fl r (Nat.le_refl _), sg]
        unfold keepR
        have nk : r ∉ smallGo [] done := fun h => nz (sub r h)
        split
        · rename_i c
          rw [c]
          simp [nk]
        · rename_i c
          simp at c
          simp [c]
      · have e1 : r ∈ smallGo [] (done ++ [z]) ↔ r ∈ smallGo [] done := by
          rw [sg]
          unfold keepR
          split
          · exact Iff.rfl
          · simp [hr]
        have e2 : r ∈ done ++ [z] ↔ r ∈ done := by simp [hr]
        rw [e1, e2, h r]
        constructor
        · rintro ⟨a, b⟩
          exact ⟨a, by rw [fl r (bz r a)]; exact b⟩
        · rintro ⟨a, b⟩
          exact ⟨a, by rw [fl r (bz r a)] at b; exact b⟩
  intro r
  simpa using key [] l (by simpa using bs) (by simpa using nd) (by intro r; simp [smallGo]) r
/-- S has the results of rs: S is kept of rs as the smallest list is -/
structure Kept (rs S : List Rule) : Prop where
  sub : ∀ r ∈ S, r ∈ rs
  out : ∀ r ∈ rs, r ∉ S → isOne (S.filter fun o => strW o.1 r.1) r.1 r.2 = true
  inn : ∀ r ∈ S, isOne (S.filter fun o => strW o.1 r.1) r.1 r.2 = false
theorem small_kept {rs l : List Rule} (pm : l.Perm rs) (bs : BySize l) (nd : l.Nodup) : Kept rs (smallGo [] l) where
  sub r hr := pm.mem_iff.mp ((small_char bs nd r).mp hr).1
  out r hr hn := by
    cases z : isOne ((smallGo [] l).filter fun o => strW o.1 r.1) r.1 r.2 with
    | true => rfl
    | false => exact absurd ((small_char bs nd r).mpr ⟨pm.mem_iff.mpr hr, z⟩) hn
  inn r hr := ((small_char bs nd r).mp hr).2
section
variable {rs S : List Rule} (ok : ∀ r ∈ rs, okRule r = true) (one : OneRes rs) (Ke : Kept rs S)
include ok one Ke
/-- what decides in S has the result of rs -/
theorem kept_res {c : Case} (hc : okCase c = true) {d : Rule} (hd : d ∈ decs S c) : ∀ r ∈ decs rs c, r.2 = d.2 := by
  have up : ∀ r ∈ rs, Up r.1 := fun r hr => up_of (rule_ok.mp (ok r hr)).1
  obtain ⟨d1, d2, d3⟩ := mem_decs.mp hd
  obtain ⟨e, e1, e2⟩ := above up (Ke.sub d d1) d2
  intro r hr
  rw [one c hc r hr e e1]
  rcases e2 with rfl | e2
  · rfl
  obtain ⟨f1, f2, f3⟩ := mem_decs.mp e1
  have ne : e ∉ S := fun h => by rw [d3 e h f2] at e2; cases e2
  have o := Ke.out e f1 ne
  unfold isOne at o
  rw [Bool.and_eq_true, List.all_eq_true] at o
  have : d ∈ decs (S.filter fun o => strW o.1 e.1) e.1 := mem_decs.mpr ⟨List.mem_filter.mpr ⟨d1, e2⟩, (str_in e2).1, fun o ho _ => d3 o (List.mem_filter.mp ho).1 (inC_trans (str_in (List.mem_filter.mp ho).2).1 f2)⟩
  exact (of_decide_eq_true (o.2 d this)).symm
omit one in
/-- where a rule matches, one of S does -/
theorem kept_some {c : Case} {r : Rule} (hr : r ∈ rs) (hm : mat c r = true) : ∃ d ∈ S, mat c d = true := by
  have key : ∀ (n : Nat) (r : Rule), r ∈ rs → mat c r = true → r.1.length ≤ n → ∃ d ∈ S, mat c d = true := by
    intro n
    induction n with
    | zero =>
      intro r hr hm hl
      by_cases h : r ∈ S
      · exact ⟨r, h, hm⟩
      · have o := Ke.out r hr h
        unfold isOne at o
        rw [Bool.and_eq_true, Bool.not_eq_true'] at o
        cases hd : decs (S.filter fun o => strW o.1 r.1) r.1 with
        | nil => rw [hd] at o; cases o.1
        | cons a l =>
          have : a ∈ decs (S.filter fun o => strW o.1 r.1) r.1 := by rw [hd]; exact List.mem_cons_self
          have := List.mem_filter.mp (mem_decs.mp this).1
          exact ⟨a, this.1, inC_trans (str_in this.2).1 hm⟩
    | succ n ih =>
      intro r hr hm hl
      by_cases h : r ∈ S
      · exact ⟨r, h, hm⟩
      · have o := Ke.out r hr h
        unfold isOne at o
        rw [Bool.and_eq_true, Bool.not_eq_true'] at o
        cases hd : decs (S.filter fun o => strW o.1 r.1) r.1 with
        | nil => rw [hd] at o; cases o.1
        | cons a l =>
          have : a ∈ decs (S.filter fun o => strW o.1 r.1) r.1 := by rw [hd]; exact List.mem_cons_self
          have := List.mem_filter.mp (mem_decs.mp this).1
          exact ⟨a, this.1, inC_trans (str_in this.2).1 hm⟩
  exact key r.1.length r hr hm (Nat.le_refl _)
/-- the results are the same -/
theorem kept_same {c : Case} (hc : okCase c = true) (k : Int) : k ∈ (decs S c).map (·.2) ↔ k ∈ (decs rs c).map (·.2) := by
  have up : ∀ r ∈ rs, Up r.1 := fun r hr => up_of (rule_ok.mp (ok r hr)).1
  have upS : ∀ r ∈ S, Up r.1 := fun r hr => up r (Ke.sub r hr)
  constructor
  · intro h
    obtain ⟨d, hd, rfl⟩ := List.mem_map.mp h
    obtain ⟨d1, d2, _⟩ := mem_decs.mp hd
    obtain ⟨e, e1, _⟩ := above up (Ke.sub d d1) d2
    exact List.mem_map.mpr ⟨e, e1, kept_res ok one Ke hc hd e e1⟩
  · intro h
    obtain ⟨r, hr, rfl⟩ := List.mem_map.mp h
    obtain ⟨r1, r2, _⟩ := mem_decs.mp hr
    obtain ⟨d, d1, d2⟩ := kept_some ok Ke r1 r2
    obtain ⟨e, e1, _⟩ := above upS d1 d2
    exact List.mem_map.mpr ⟨e, e1, (kept_res ok one Ke hc e1 r hr).symm⟩
theorem kept_one : OneRes S := by
  intro c hc r hr s hs
  have up : ∀ r ∈ rs, Up r.1 := fun r hr => up_of (rule_ok.mp (ok r hr)).1
  obtain ⟨r1, r2, _⟩ := mem_decs.mp hr
  obtain ⟨e, e1, _⟩ := above up (Ke.sub r r1) r2
  rw [← kept_res ok one Ke hc hr e e1, ← kept_res ok one Ke hc hs e e1]
end
/-- a rule's own result -/
theorem own_res {rs : List Rule} (ok : ∀ r ∈ rs, okRule r = true) (one : OneRes rs) {r : Rule} (hr : r ∈ rs) (k : Int) : k ∈ (decs rs r.1).map (·.2) ↔ k = r.2 := by
  have up : ∀ r ∈ rs, Up r.1 := fun r hr => up_of (rule_ok.mp (ok r hr)).1
  have hs := decs_self up hr
  constructor
  · intro h
    obtain ⟨s, hs2, rfl⟩ := List.mem_map.mp h
    exact one r.1 (rule_ok.mp (ok r hr)).1 s hs2 r hs
  · rintro rfl
    exact List.mem_map.mpr ⟨r, hs, rfl⟩
/-- all results alike: just the value -/
theorem isOne_iff {rs : List Rule} {c : Case} {v : Int} : isOne rs c v = true ↔ ∀ k, k ∈ (decs rs c).map (·.2) ↔ k = v := by
  unfold isOne
  rw [Bool.and_eq_true, Bool.not_eq_true', List.all_eq_true]
  constructor
  · rintro ⟨h1, h2⟩ k
    constructor
    · intro h
      obtain ⟨r, hr, rfl⟩ := List.mem_map.mp h
      exact of_decide_eq_true (h2 r hr)
    · rintro rfl
      cases hd : decs rs c with
      | nil => rw [hd] at h1; cases h1
      | cons a l =>
        have := of_decide_eq_true (h2 a (by rw [hd]; exact List.mem_cons_self))
        rw [← this]
        simp
  · intro h
    constructor
    · cases hd : decs rs c with
      | nil => have := (h v).mpr rfl; rw [hd] at this; cases this
      | cons a l => rfl
    · intro r hr
      exact decide_eq_true ((h r.2).mp (List.mem_map.mpr ⟨r, hr, rfl⟩))
/-- the rules within a case: those strictly within, and those for it -/
theorem decs_split {S : List Rule} {c : Case} (uc : Up c) (up : ∀ r ∈ S, Up r.1) (no : ∀ r ∈ S, r.1 ≠ c) : decs S c = decs (S.filter fun o => strW o.1 c) c := by
  have e : S.filter (mat c) = (S.filter fun o => strW o.1 c).filter (mat c) := by
    rw [List.filter_filter]
    refine List.filter_congr fun r hr => ?_
    cases hm : mat c r with
    | false => rfl
    | true =>
      rw [in_strict (up r hr) uc hm (no r hr)]
      rfl
  unfold decs
  rw [e]
/-- two smallest lists: the first rule that only one has tells a case with other results -/
theorem first_diff {rs os S Z : List Rule} (okr : ∀ r ∈ rs, okRule r = true) (oko : ∀ r ∈ os, okRule r = true) (o1 : OneRes rs) (o2 : OneRes os) (K1 : Kept rs S) (K2 : Kept os Z) {r : Rule} (hr : r ∈ S) (hn : r ∉ Z)
    (less : ∀ o, o.1.length < r.1.length → (o ∈ S ↔ o ∈ Z)) : ¬ ∀ k, k ∈ (decs rs r.1).map (·.2) ↔ k ∈ (decs os r.1).map (·.2) := by
  intro h
  have rr := K1.sub r hr
  have okc := (rule_ok.mp (okr r rr)).1
  have upZ : ∀ o ∈ Z, Up o.1 := fun o ho => up_of (rule_ok.mp (oko o (K2.sub o ho))).1
  have fr : ∀ k, k ∈ (decs Z r.1).map (·.2) ↔ k = r.2 := fun k => by rw [kept_same oko o2 K2 okc k, ← h k]; exact own_res okr o1 rr k
  by_cases q : ∃ z ∈ Z, z.1 = r.1
  · obtain ⟨z, hz, e⟩ := q
    have : z ∈ decs Z r.1 := by rw [← e]; exact decs_self upZ hz
    have := (fr z.2).mp (List.mem_map.mpr ⟨z, this, rfl⟩)
    exact hn (by rw [← Prod.ext e this]; exact hz)
  · have no : ∀ z ∈ Z, z.1 ≠ r.1 := fun z hz e => q ⟨z, hz, e⟩
    have e1 := decs_split (up_of okc) upZ no
    have e2 : isOne (Z.filter fun o => strW o.1 r.1) r.1 r.2 = true := isOne_iff.mpr fun k => by rw [← e1]; exact fr k
    have e3 : isOne (S.filter fun o => strW o.1 r.1) r.1 r.2 = true := by
      rw [isOne_iff] at e2 ⊢
      intro k
      rw [← e2 k]
      have mm : ∀ d, d ∈ decs (S.filter fun o => strW o.1 r.1) r.1 ↔ d ∈ decs (Z.filter fun o => strW o.1 r.1) r.1 := fun d => by
        have mf : ∀ o, o ∈ S.filter (fun o => strW o.1 r.1) ↔ o ∈ Z.filter (fun o => strW o.1 r.1) := fun o => by
          rw [List.mem_filter, List.mem_filter]
          constructor
          · rintro ⟨a, b⟩; exact ⟨(less o (str_in b).2).mp a, b⟩
          · rintro ⟨a, b⟩; exact ⟨(less o (str_in b).2).mpr a, b⟩
        rw [mem_decs, mem_decs, mf d]
        constructor
        · rintro ⟨a, b, c⟩; exact ⟨a, b, fun o ho => c o ((mf o).mpr ho)⟩
        · rintro ⟨a, b, c⟩; exact ⟨a, b, fun o ho => c o ((mf o).mp ho)⟩
      constructor
      · intro hk
        obtain ⟨d, hd, rfl⟩ := List.mem_map.mp hk
        exact List.mem_map.mpr ⟨d, (mm d).mp hd, rfl⟩
      · intro hk
        obtain ⟨d, hd, rfl⟩ := List.mem_map.mp hk
        exact List.mem_map.mpr ⟨d, (mm d).mpr hd, rfl⟩
    rw [K1.inn r hr] at e3
    cases e3
/-- the same results for the rules' own conditions: the same smallest list -/
theorem kept_uniq {rs os S Z : List Rule} (okr : ∀ r ∈ rs, okRule r = true) (oko : ∀ r ∈ os, okRule r = true) (o1 : OneRes rs) (o2 : OneRes os) (K1 : Kept rs S) (K2 : Kept os Z)
    (h : ∀ c, ((∃ r ∈ S, r.1 = c) ∨ ∃ r ∈ Z, r.1 = c) → ∀ k, k ∈ (decs rs c).map (·.2) ↔ k ∈ (decs os c).map (·.2)) : ∀ r, r ∈ S ↔ r ∈ Z := by
  have key : ∀ (n : Nat) (r : Rule), r.1.length = n → (r ∈ S ↔ r ∈ Z) := by
    intro n
    induction n using Nat.strongRecOn with
    | ind n ih =>
      intro r hl
      constructor
      · intro hr
        apply Classical.byContradiction
        intro hn
        exact first_diff okr oko o1 o2 K1 K2 hr hn (fun o ho => ih o.1.length (by omega) o rfl) (h r.1 (.inl ⟨r, hr, rfl⟩))
      · intro hr
        apply Classical.byContradiction
        intro hn
        exact first_diff oko okr o2 o1 K2 K1 hr hn (fun o ho => (ih o.1.length (by omega) o rfl).symm) fun k => (h r.1 (.inr ⟨r, hr, rfl⟩) k).symm
  exact fun r => key r.1.length r rfl
end DL
/-! DM1: min of a list of data. -/
namespace DL
open PySem PySem.Spec PyProof.Rows L2 Enc
open PySem.W (EachIs alike alikeAll dataLt)
section
variable {α : Type} [EncO α]
theorem lt_tr {a b c : α} (h1 : EncO.lt a b = true) (h2 : EncO.lt b c = true) : EncO.lt a c = true := by
  rw [← EncO.ltp] at h1 h2 ⊢
  exact PyProof.Rows.lex_trans _ _ _ h1 h2
theorem lt_irr (a : α) : EncO.lt a a = false := by
  rw [← EncO.ltp]
  exact PyProof.Rows.lex_irrefl _
/-- the first of the least -/
def minF (b : α) (l : List α) : α := l.foldl (fun a y => if EncO.lt y a = true then y else a) b
theorem minF_mem : ∀ (l : List α) (b : α), minF b l ∈ b :: l
  | [], b => List.mem_cons_self
  | y :: l, b => by
    show minF (if EncO.lt y b = true then y else b) l ∈ b :: y :: l
    have := minF_mem l (if EncO.lt y b = true then y else b)
    rcases List.mem_cons.mp this with h | h
    · rw [h]
      split <;> simp
    · exact List.mem_cons_of_mem _ (List.mem_cons_of_mem _ h)
theorem minF_le : ∀ (l : List α) (b : α) (s : List α), (∀ z ∈ s, EncO.lt z b = false) → ∀ z, (z ∈ s ∨ z ∈ b :: l) → EncO.lt z (minF b l) = false
  | [], b, s, h, z, hz => by
    rcases hz with hz | hz
    · exact h z hz
    · rw [List.mem_singleton.mp hz]
      exact lt_irr b
  | y :: l, b, s, h, z, hz => by
    refine minF_le l (if EncO.lt y b = true then y else b) (s ++ [b, y]) (fun x hx => ?_) z ?_
    · rw [List.mem_append, List.mem_cons, List.mem_singleton] at hx
      by_cases c : EncO.lt y b = true
      · rw [if_pos c]
        cases q : EncO.lt x y with
        | false => rfl
        | true =>
          have q2 := lt_tr q c
          rcases hx with hx | rfl | rfl
          · rw [h x hx] at q2; cases q2
          · rw [lt_irr] at q2; cases q2
          · rw [lt_irr] at q; cases q
      · rw [if_neg c]
        rcases hx with hx | rfl | rfl
        · exact h x hx
        · exact lt_irr x
        · simpa using c
    · rcases hz with hz | hz
      · exact .inl (List.mem_append_left _ hz)
      · rcases List.mem_cons.mp hz with rfl | hz
        · exact .inl (by simp)
        · rcases List.mem_cons.mp hz with rfl | hz
          · exact .inl (by simp)
          · exact .inr (List.mem_cons_of_mem _ hz)
theorem minF_pe : ∀ (l : List α) (b : α), PySem.W.minD (pe b) (l.map pe) = pe (minF b l)
  | [], b => rfl
  | y :: l, b => by
    show PySem.W.minD (if dataLt (pe y) (pe b) = true then pe y else pe b) (l.map pe) = _
    rw [EncO.ltp]
    show _ = pe (minF (if EncO.lt y b = true then y else b) l)
    rw [← minF_pe l]
    split <;> rfl
theorem readsAll_of {h : Heap} : ∀ {us : List Value} {bs : List α}, EachIs (fun u b => ∃ as, Reads h u (pe b) as) us bs → ∃ as, ReadsAll h us (bs.map pe) as
  | _, _, .nil => ⟨[], .nil⟩
  | _, _, .cons ⟨as, r⟩ t => by
    obtain ⟨bs, q⟩ := readsAll_of t
    exact ⟨as ++ bs, .cons r q⟩
theorem each_at {β γ : Type} {R : β → γ → Prop} : ∀ {us : List β} {bs : List γ} {i : Nat} {u : β}, EachIs R us bs → us[i]? = some u → ∃ b, b ∈ bs ∧ R u b
  | _, _, 0, _, .cons h _, e => by cases e; exact ⟨_, List.mem_cons_self, h⟩
  | _, _, i + 1, _, .cons _ t, e => by
    obtain ⟨b, h1, h2⟩ := each_at t (i := i) (by simpa using e)
    exact ⟨b, List.mem_cons_of_mem _ h1, h2⟩
  | _, _, i, _, .nil, e => by simp at e
theorem each_and {β γ : Type} {R S : β → γ → Prop} : ∀ {us : List β} {bs : List γ}, EachIs R us bs → EachIs S us bs → EachIs (fun u b => R u b ∧ S u b) us bs
  | _, _, .nil, .nil => .nil
  | _, _, .cons h t, .cons g u => .cons ⟨h, g⟩ (each_and t u)
variable {X : Cx} {W : WX} {e : Expr} {pos : Pos}
def rMinD (α : Type) [EncO α] (K : PySem.W.Frag) : List V → Hp → VK → Prop := fun vs H Q => ∃ (l : Addr) (xs : List V) (b : α) (bs : List α) (T : V → α → Prop), vs = [V.ref l] ∧ SqL K H l xs ∧ EachIs T xs (b :: bs) ∧ EachIs (fun x b => Dp K H x (pe b)) xs (b :: bs) ∧ ∀ x, T x (minF b bs) → Q x H
theorem cr_minD (low : Enc.deep α ≤ 60) (nn : ∀ a : α, pe a ≠ .none) (hc : X.calm = true) (hu : X.A.units + 150 < cLine) : CallR X (.builtin "min") (rMinD α X.K) := by
  rintro pins s σ H vs us Q I r ⟨l, xs, b, bs, T, rfl, hs, h1, h2, q⟩
  rw [Vals.ref1 r]
  obtain ⟨its, rv, hl, hz⟩ := I.list hs
  have er := each_reads I rv h2
  have ev := each_vals rv h1
  obtain ⟨as, ra⟩ := readsAll_of er
  refine PySem.W.min_list_data (as := as) (I.ok.hd hc) hl.isList (by simpa using ra) ⟨fun x hx y hy => ?_, fun x hx => ?_⟩ ?_ fun i v h' tk bs' hv rd up => ?_
  · rw [← List.map_cons] at hx hy
    obtain ⟨a, _, rfl⟩ := List.mem_map.mp hx
    obtain ⟨c, _, rfl⟩ := List.mem_map.mp hy
    exact EncO.al a c
  · rw [← List.map_cons] at hx
    obtain ⟨a, _, rfl⟩ := List.mem_map.mp hx
    exact nn a
  · have := depthAll_enc (b :: bs)
    rw [List.map_cons] at this
    omega
  · have hv : its[i]? = some v := by simpa using hv
    obtain ⟨c, cm, ⟨x, rx, tx⟩, ⟨as2, r2⟩⟩ := each_at (each_and ev er) hv
    rw [minF_pe] at rd
    have e1 : pe c = pe (minF b bs) := PySem.W.alike_unique _ _ _ _ _ (EncO.al c (minF b bs)) (Reads.keeps up r2) rd
    have e2 : c = minF b bs := (Enc.eqv c (minF b bs)).mp (by rw [← e1]; exact (Enc.eqv c c).mpr rfl)
    subst e2
    exact ⟨x, H, I.kept (t' := tk) up, rx, q x tx⟩
/-- min(xs) -/
def wMinD (α : Type) [EncO α] (wr : WA) : DL.WE := fun sl M Q E => wr sl M (fun ds M1 => ∃ (b : α) (l : List α), ds.map (der M1) = [.lst ((b :: l).map enc)] ∧ Q (enc (minF b l)) M1) E
theorem d_minD (α : Type) [EncO α] {p : Pos} {wr : WA} (hc : X.calm = true) (hu : X.A.units + 150 < cLine) (hg : Gl X "min") (hm : X.mg "min" = none) (ha : PA X [e] (lowA W wr)) (hlow : Enc.deep α ≤ 60 := by decide) (nn : ∀ a : α, pe a ≠ .none := by intro a; nofun)
    (he : starEach [e] X.env = (false, eval e X.env) :: starEach [] X.env := by rfl) (hp : (backTo pos (starEach [] X.env)).any (·.1) = false := by rfl) : PE X (.Call (.Name "min" p) [e] [] pos) (low W (wMinD α wr)) := by
  refine PE.imp (pe_callB (cr_minD (α := α) hlow nn hc hu) hg hm (by kernel_rfl) ha (by decide) (by decide) he hp) fun σ H Q ⟨sl, Hf, M, Qd, Xd, rl, w, k, kx⟩ => ⟨sl, Hf, M, _, Xd, rl, w, fun ds Hf1 M1 vs H1 s1 r1 w1 => ?_, kx⟩
  obtain ⟨b, l, ed, q⟩ := w1
  have rt := RepTs.of s1.wd r1
  rw [ed] at rt
  obtain ⟨v, rfl, h⟩ := rt.one
  obtain ⟨a, xs, rfl, ha, r⟩ := h.lst s1.wd.le
  refine ⟨a, xs, b, l, fun x b => Rep Hf1 x (enc b), rfl, .of ha, each_rep r, each_mono (fun x c hx => (hx.mono s1.wd.le).dp (Enc.hp c)) (each_rep r), fun x hx => ?_⟩
  exact k _ Hf1 M1 x H1 s1 hx q
end
end DL
/-! DP9: the smallest list goes along with other names. -/
namespace DL
open PySem PySem.Spec PyProof.Rows L2 Enc TL
section
variable {f g h : Int → Int} (F : One f 5) (G : One g 10) (Hh : One h 100)
include F G Hh
theorem isOne_send {L : List Rule} {r : Rule} (ok : ∀ r ∈ L, okRule r = true) (hr : okRule r = true) : isOne (L.map (sendR f g h)) (sendC f g r.1) (h r.2) = isOne L r.1 r.2 := by
  obtain ⟨hc, v0, v1⟩ := rule_ok.mp hr
  unfold isOne
  rw [decs_send F G Hh ok hc, List.isEmpty_map, List.all_map]
  congr 1
  rw [Bool.eq_iff_iff, List.all_eq_true, List.all_eq_true]
  constructor
  · intro z d hd
    have := of_decide_eq_true (z d hd)
    have okd := rule_ok.mp (ok d (mem_decs.mp hd).1)
    exact decide_eq_true (Hh.inj _ _ okd.2.1 okd.2.2 v0 v1 this)
  · intro z d hd
    have := of_decide_eq_true (z d hd)
    exact decide_eq_true (show h d.2 = h r.2 by rw [this])
theorem filter_send {L : List Rule} {c : Case} (ok : ∀ r ∈ L, okRule r = true) (hc : okCase c = true) : (L.map (sendR f g h)).filter (fun o => strW o.1 (sendC f g c)) = (L.filter fun o => strW o.1 c).map (sendR f g h) := by
  rw [List.filter_map]
  congr 1
  refine List.filter_congr fun o ho => ?_
  exact send_str F G (rule_ok.mp (ok o ho)).1 hc
theorem inside_send {L : List Rule} {r : Rule} (ok : ∀ r ∈ L, okRule r = true) (hr : okRule r = true) : isOne ((L.map (sendR f g h)).filter fun o => strW o.1 (sendR f g h r).1) (sendR f g h r).1 (sendR f g h r).2 = isOne (L.filter fun o => strW o.1 r.1) r.1 r.2 := by
  show isOne ((L.map (sendR f g h)).filter fun o => strW o.1 (sendC f g r.1)) (sendC f g r.1) (h r.2) = _
  rw [filter_send F G Hh ok (rule_ok.mp hr).1]
  exact isOne_send F G Hh (fun z hz => ok z (List.mem_filter.mp hz).1) hr
theorem kept_send {rs S : List Rule} (ok : ∀ r ∈ rs, okRule r = true) (K : Kept rs S) : Kept (rs.map (sendR f g h)) (S.map (sendR f g h)) where
  sub r hr := by
    obtain ⟨z, hz, rfl⟩ := List.mem_map.mp hr
    exact List.mem_map.mpr ⟨z, K.sub z hz, rfl⟩
  out r hr hn := by
    obtain ⟨z, hz, rfl⟩ := List.mem_map.mp hr
    rw [inside_send F G Hh (fun r hr => ok r (K.sub r hr)) (ok z hz)]
    exact K.out z hz fun h => hn (List.mem_map.mpr ⟨z, h, rfl⟩)
  inn r hr := by
    obtain ⟨z, hz, rfl⟩ := List.mem_map.mp hr
    rw [inside_send F G Hh (fun r hr => ok r (K.sub r hr)) (ok z (K.sub z hz))]
    exact K.inn z hz
end
/-- the same rules in any order: the same smallest list -/
theorem kept_eq {rs os S Z : List Rule} (okr : ∀ r ∈ rs, okRule r = true) (o1 : OneRes rs) (K1 : Kept rs S) (K2 : Kept os Z) (e : ∀ r, r ∈ os ↔ r ∈ rs) : ∀ r, r ∈ S ↔ r ∈ Z := by
  have mm : ∀ c d, d ∈ decs os c ↔ d ∈ decs rs c := fun c d => by
    rw [mem_decs, mem_decs, e d]
    constructor
    · rintro ⟨a, b, c⟩; exact ⟨a, b, fun o ho => c o ((e o).mpr ho)⟩
    · rintro ⟨a, b, c⟩; exact ⟨a, b, fun o ho => c o ((e o).mp ho)⟩
  refine kept_uniq okr (fun r hr => okr r ((e r).mp hr)) o1 (fun c hc r hr s hs => o1 c hc r ((mm c r).mp hr) s ((mm c s).mp hs)) K1 K2 fun c _ k => ?_
  constructor
  · intro hk
    obtain ⟨d, hd, rfl⟩ := List.mem_map.mp hk
    exact List.mem_map.mpr ⟨d, (mm c d).mpr hd, rfl⟩
  · intro hk
    obtain ⟨d, hd, rfl⟩ := List.mem_map.mp hk
    exact List.mem_map.mpr ⟨d, (mm c d).mp hd, rfl⟩
theorem same_asc {α : Type} [EncT α] {l m a b : List α} (n1 : l.Nodup) (n2 : m.Nodup) (e : ∀ x, x ∈ l ↔ x ∈ m) (p1 : a.Perm l) (p2 : b.Perm m) (s1 : Asc a) (s2 : Asc b) : a = b :=
  sorted_uniq (kf := fun x : α => x) (fun _ _ h => h) (p1.trans ((((List.perm_ext_iff_of_nodup n1 n2).mpr e)).trans p2.symm)) s1 s2
end DL
/-! DG1: for in a generator's body. -/
namespace L2
open PySem PySem.Spec PyProof.Rows GenW
section
variable {M : Model} {A : Around} {R : GenEnd} {Y : Protocol} {n : Nat} {s₀ : Shared} {c : Code} {fs : List Frame} {s : Shared} {env : Env}
  {K : Flow → Sem PySem.Fin} {J : Value → Sem PySem.Fin} {gd : Bool → Bool} {lv : List Value → List Value}
theorem seg_For {target iter : Expr} {body : List Stmt} {pos : Pos} (hs : ∀ x, foldedSetIterable iter env x = pure x)
    (h : wpAny M (A.over c fs) (eval iter env) (fun v s1 => wpAny M (A.over c fs) (pyIter v) (fun it s2 => ∀ p, Seg M A R Y n s₀ (.forLoop target it body [] env) (M.den (.forLoop target it body [] env))
      (.ret (fun r => ((match r with | .ok f => (.pure f : Sem Flow) | .error e => .raise e).onRaise (cameBack env)).wrap K J gd lv) none (gd false) (lv []) c p [] :: fs) s2) (fun x s' => Seg M A R Y n s₀ c (J x) fs s') s1) (fun x s' => Seg M A R Y n s₀ c (J x) fs s') s) :
    Seg M A R Y n s₀ c ((exec (.For target iter body [] pos) env).wrap K J gd lv) fs s := by
  refine seg_at ?_
  show Seg M A R Y n s₀ c (Sem.wrap K J gd lv (eval iter env >>= fun v => foldedSetIterable iter env v >>= fun x => standAt iter.pos >>= fun _ => holding [x] (pyIter x) >>= fun it => runOwn (.forLoop target it body [] env) env)) fs s
  refine seg_bind_wrap (wpAny_mono h (fun v s1 h1 => ?_) fun _ _ x => x)
  rw [hs v]
  refine seg_bind_wrap (wpAny_pure ?_)
  refine seg_bind_wrap (wpAny_standAt ?_)
  refine seg_bind_wrap (wpAny_holding (wpAny_mono h1 (fun it s2 h2 => ?_) fun _ _ x => x))
  exact seg_call h2
end
section
variable {prog : Program} {w : World} {A : Around} {R : GenEnd} {Y : Protocol} {n : Nat} {s₀ : Shared} {fs : List Frame} {s : Shared} {env : Env}
theorem seg_forLoop {target : Expr} {it : Value} {body : List Stmt}
    (h : wpAny (model prog w) (A.over (.forLoop target it body [] env) fs) (pyNext it) (fun r s1 => match r with
        | none => Seg (model prog w) A R Y n s₀ (.forLoop target it body [] env) (.pure (.again (.block [] env))) fs s1
        | some v => wpAny (model prog w) (A.over (.forLoop target it body [] env) fs) (letOwnedTupleGo target it v) (fun _ s2 => wpAny (model prog w) (A.over (.forLoop target it body [] env) fs) (assign target env v) (fun _ s3 =>
          Seg (model prog w) A R Y n s₀ (.forLoop target it body [] env) ((execs body env).wrap (fun f => match f with
            | .next | .cont => .pure (.again (.forLoop target it body [] env))
            | .brk => .pure (.done .next)
            | .ret v => .pure (.done (.ret v))) (fun e => (do noteFrame e env; theTreesLotGoes e : Sem Unit).wrap (fun _ => .raise e) .raise id id) id id) fs s3)
            (fun x s' => Seg (model prog w) A R Y n s₀ (.forLoop target it body [] env) ((do noteFrame x env; theTreesLotGoes x : Sem Unit).wrap (fun _ => .raise x) .raise id id) fs s') s2)
            (fun x s' => Seg (model prog w) A R Y n s₀ (.forLoop target it body [] env) ((do noteFrame x env; theTreesLotGoes x : Sem Unit).wrap (fun _ => .raise x) .raise id id) fs s') s1)
      (fun x s' => Seg (model prog w) A R Y n s₀ (.forLoop target it body [] env) ((do noteFrame x env; theTreesLotGoes x : Sem Unit).wrap (fun _ => .raise x) .raise id id) fs s') s) :
    Seg (model prog w) A R Y n s₀ (.forLoop target it body [] env) ((model prog w).den (.forLoop target it body [] env)) fs s := by
  show Seg _ A R Y n s₀ _ ((forTurn target it body [] env).onRaise (fun x => do noteFrame x env; theTreesLotGoes x)) fs s
  have ex : ∀ x s', Seg (model prog w) A R Y n s₀ (.forLoop target it body [] env) ((do noteFrame x env; theTreesLotGoes x : Sem Unit).wrap (fun _ => .raise x) .raise id id) fs s' →
      Seg (model prog w) A R Y n s₀ (.forLoop target it body [] env) ((do noteFrame x env; theTreesLotGoes x : Sem Unit).bind fun _ => (.raise x : Sem PySem.Fin)) fs s' := fun x s' hx => by
    rw [Sem.bind_eq_wrap]
    exact hx
  unfold forTurn
  rw [Sem.onRaise_eq_wrap]
  refine seg_bind_wrap (wpAny_standAt ?_)
  refine seg_bind_wrap (wpAny_onRaise (wpAny_mono h (fun r s1 h1 => ?_) fun x s' hx => wpAny_standAt (ex x s' hx)))
  cases r with
  | none => exact h1
  | some v =>
    refine seg_bind_wrap (wpAny_mono h1 (fun _ s2 h2 => ?_) fun x s' hx => ex x s' hx)
    refine seg_bind_wrap (wpAny_mono h2 (fun _ s3 h3 => ?_) fun x s' hx => ex x s' hx)
    rw [Sem.bind_eq_wrap', Sem.wrap_wrap]
    rw [Sem.wrap_congr (execs body env) _ _ (K' := fun f => match f with
            | .next | .cont => .pure (.again (.forLoop target it body [] env))
            | .brk => .pure (.done .next)
            | .ret v => .pure (.done (.ret v))) (H' := (fun e => (do noteFrame e env; theTreesLotGoes e : Sem Unit).wrap (fun _ => .raise e) .raise id id))
        (fun f => by cases f <;> rfl)
        (fun e => by first | exact Sem.bind_eq_wrap _ _ | (show (do noteFrame e env; theTreesLotGoes e : Sem Unit).bind (fun _ => .raise e) = _; rw [Sem.bind_eq_wrap]))]
    exact h3
end
section
variable {X : Cx} {tg : Expr}
def tGFor (wi : TI) (g : TG) (tb : TGn) : TGn := fun D ys σ H => wi σ H fun J H1 => ∃ W : Nat → Nat → List V → St → Hp → Prop, (∃ m, W 0 m ys σ H1) ∧ ∀ i m ys σ H, W i m ys σ H →
  (J.stop i H ∧ D.nx ys σ H) ∨ (J.go i H ∧ ∃ N : List V → St → Hp → Prop, (∀ ys' σ' H', N ys' σ' H' → ∃ m', m' < m ∧ W (i + 1) m' ys' σ' H') ∧ ∀ x H', J.yld i H x H' → g x σ H' fun σ2 H2 => tb { D with nx := N, ct := N, bk := D.nx } ys σ2 H2)
theorem gs_for {iter : Expr} {body : List Stmt} {wi : TI} {g : TG} {tb : TGn} {pos : Pos} (hp : PassesOwn (model X.prog X.w) X.A X.env X.xe) (hc : X.calm = true) (hi : PI X tg iter wi) (hg : PG X tg g) (hb : GSs X body tb)
    (hs : ∀ x, foldedSetIterable iter X.env x = pure x := by intro _; rfl) : GS X (.For tg iter body [] pos) (tGFor wi g tb) := by
  refine ⟨fun A S ip R n ys s₀ c fs K J gd lv s σ H D gc hn k hI ht => ?_⟩
  obtain ⟨acc, cc, r, I⟩ := hI
  refine seg_For hs ?_
  rw [gc.over]
  refine wpAny_mono (hi.run _ s σ H _ I ht) (fun v s1 h1 => wpAny_mono h1 (fun itv s2 h2 => ?_) fun x s' hx => k.exc n s₀ x s' hx) fun x s' hx => k.exc n s₀ x s' hx
  obtain ⟨it, fp, tn, Ji, H2, e, I2, T, st2, f2, W, ⟨m0, w0⟩, turn⟩ := h2
  subst e
  intro p
  have gl := fun (kk : Result → Sem PySem.Fin) => gc_loop (k := kk) (c' := .forLoop tg (.ref it) body [] X.env) (l := lv []) (kp := []) (p := p) gc rfl rfl
  have fS : ∀ b ∈ fp, S ≠ b := fun b hb => (f2 b hb).2.2.2.2.2 (S, lstObj acc cc) (List.mem_append_right _ List.mem_cons_self)
  have stat : ∀ {H' : Hp} {o : Obj}, (∀ b ∈ fp, H' b = none) → ∀ b ∈ fp, FpOk X ((S, o) :: ip) H' b := fun {H' o} hn b hb => by
    obtain ⟨_, q1, q2, q3, q4, q5⟩ := f2 b hb
    refine ⟨hn b hb, q1, q2, q3, q4, fun z hz => ?_⟩
    rcases List.mem_append.mp hz with hz | hz
    · exact q5 z (List.mem_append_left _ hz)
    · rcases List.mem_cons.mp hz with hz | hz
      · rw [hz]; exact fS b hb
      · exact q5 z (List.mem_append_right _ (List.mem_cons_of_mem _ hz))
  have loop : ∀ (m i n : Nat) (ys : List V) (s₀ s : Shared) (σ : St) (H : Hp), n + ys.length = sizeLine → W i m ys σ H → GI X S ip ys σ H s → tn i s.heap → (∀ b ∈ fp, H b = none) →
      Seg (model X.prog X.w) A R (GY X S) n s₀ (.forLoop tg (.ref it) body [] X.env) ((model X.prog X.w).den (.forLoop tg (.ref it) body [] X.env))
        (.ret (fun r => ((match r with | .ok f => (.pure f : Sem Flow) | .error e => .raise e).onRaise (cameBack X.env)).wrap K J gd lv) none (gd false) (lv []) c p [] :: fs) s := by
    intro m
    induction m using Nat.strongRecOn with
    | ind m ih =>
      intro i n ys s₀ s σ H hn w hI st fr
      have ee : ∀ (n : Nat) (s₀ : Shared) (x : Value) (s' : Shared), X.xe x s' → Seg (model X.prog X.w) A R (GY X S) n s₀ (.forLoop tg (.ref it) body [] X.env)
          ((do noteFrame x X.env; theTreesLotGoes x : Sem Unit).wrap (fun _ => .raise x) .raise id id)
          (.ret (fun r => ((match r with | .ok f => (.pure f : Sem Flow) | .error e => .raise e).onRaise (cameBack X.env)).wrap K J gd lv) none (gd false) (lv []) c p [] :: fs) s' := fun n s₀ x s' hx => by
        refine seg_wrap ?_
        rw [(gl _).over]
        refine wpAny_bind (wpAny_mono (hp x s' hx) (fun _ s'' hcb => wpAny_theTreesLotGoes ?_) fun y s'' hcb => ?_)
        · exact seg_leaf (.error x) (seg_cameBack gc k hcb)
        · exact seg_leaf (.error y) (seg_cameBack gc k hcb)
      refine seg_forLoop ?_
      rw [(gl _).over]
      obtain ⟨acc, cc, r, I⟩ := hI
      rcases turn i m ys σ H w with ⟨stop, qn⟩ | ⟨go, N, hN, step⟩
      · refine wpAny_mono (T.done X rfl rfl rfl hc i _ s σ H X.xe I (stat fr) st stop) (fun r4 s4 h4 => ?_) fun x s' hx => ee n s₀ x s' hx
        obtain ⟨hr, I4⟩ := h4
        subst hr
        refine seg_again rfl ?_
        exact seg_leaf (.ok .next) (k.ok n ys s₀ s4 .next hn ⟨σ, H, ⟨acc, cc, r, I4⟩, qn⟩)
      · refine wpAny_mono (T.item X rfl rfl rfl hc i _ s σ H X.xe I (stat fr) st go) (fun r4 s4 h4 => ?_) fun x s' hx => ee n s₀ x s' hx
        obtain ⟨u, hr, h4⟩ := h4
        subst hr
        refine wpAny_mono h4 (fun _ s5 h5 => ?_) fun x s' hx => ee n s₀ x s' hx
        obtain ⟨x, H5, I5, r5, y5, st5, fr5⟩ := h5
        have I5' := I5.pinned (stat fr5) (T.obj _ _ st5)
        refine wpAny_mono (hg.run _ s5 σ H5 x u _ I5' r5 (step x H5 y5)) (fun _ s6 h6 => ?_) fun x s' hx => ee n s₀ x s' hx
        obtain ⟨σ6, H6, I6, q6⟩ := h6
        have gp : GC X S (ip ++ pinsAt fp s5.heap) A (.forLoop tg (.ref it) body [] X.env) (.ret (fun r => ((match r with | .ok f => (.pure f : Sem Flow) | .error e => .raise e).onRaise (cameBack X.env)).wrap K J gd lv) none (gd false) (lv []) c p [] :: fs) id :=
          { (gl _) with
            ip := fun z hz => by
              rcases List.mem_append.mp hz with hz | hz
              · exact gc.ip z hz
              · exact fun e => fS z.1 (of_pinsAt hz).1 e.symm }
        refine hb.run A S (ip ++ pinsAt fp s5.heap) R n ys s₀ _ _ _ _ id id s6 σ6 H6 { D with nx := N, ct := N, bk := D.nx } gp hn ⟨fun n' ys' s₀' s7 f hn' hs7 => ?_, fun n' s₀' x s7 hx => ee n' s₀' x s7 hx⟩ ⟨acc, cc, r, I6⟩ q6
        have again : ∀ {σ7 : St} {H7 : Hp}, GI X S (ip ++ pinsAt fp s5.heap) ys' σ7 H7 s7 → GI X S ip ys' σ7 H7 s7 ∧ tn (i + 1) s7.heap ∧ ∀ b ∈ fp, H7 b = none := fun {σ7 H7} hI7 => by
          obtain ⟨acc7, c7, r7, I7⟩ := hI7
          have I7 : Inv X (((S, lstObj acc7 c7) :: ip) ++ pinsAt fp s5.heap) σ7 H7 s7 := I7
          refine ⟨⟨acc7, c7, r7, I7.unpinned⟩, T.keep _ _ _ st5 fun b hb o e => (I7.pin (b, o) (List.mem_append_right _ (List.mem_append_right _ (mem_pinsAt hb e)))).1, fun b hb => ?_⟩
          obtain ⟨o, e, d⟩ := T.obj _ _ st5 b hb
          exact (I7.pin (b, o) (List.mem_append_right _ (List.mem_append_right _ (mem_pinsAt hb e)))).2.1
        cases f with
        | next =>
          obtain ⟨σ7, H7, I7, n7⟩ := hs7
          obtain ⟨m', hm, w7⟩ := hN ys' σ7 H7 n7
          obtain ⟨a1, a2, a3⟩ := again I7
          exact seg_again rfl (ih m' hm (i + 1) n' ys' s₀' s7 σ7 H7 hn' w7 a1 a2 a3)
        | cont =>
          obtain ⟨σ7, H7, I7, n7⟩ := hs7
          obtain ⟨m', hm, w7⟩ := hN ys' σ7 H7 n7
          obtain ⟨a1, a2, a3⟩ := again I7
          exact seg_again rfl (ih m' hm (i + 1) n' ys' s₀' s7 σ7 H7 hn' w7 a1 a2 a3)
        | brk =>
          obtain ⟨σ7, H7, I7, q7⟩ := hs7
          exact seg_leaf (.ok .next) (k.ok n' ys' s₀' s7 .next hn' ⟨σ7, H7, (again I7).1, q7⟩)
        | ret v =>
          obtain ⟨x7, σ7, H7, I7, r7, q7⟩ := hs7
          exact seg_leaf (.ok (.ret v)) (k.ok n' ys' s₀' s7 (.ret v) hn' ⟨x7, σ7, H7, (again I7).1, r7, q7⟩)
  exact loop m0 0 n ys s₀ s2 σ H2 hn w0 ⟨acc, cc, r, I2⟩ st2 fun b hb => (f2 b hb).1
end
end L2
/-! DG2: generators, by data; list(g(..)). Only where calls are free of their surroundings. -/
namespace DL
open PySem PySem.Spec PyProof.Rows L2 Enc TL
structure GE where
  nx : List Dd → DS → MS → Prop
  ex : Value → DS → MS → Prop
abbrev WGn := GE → List Dd → DS → MS → Prop
def lowG (W : WX) (w : WGn) : TGn := fun D ys σ H => ∃ sl Hf M E yd, Rl sl Hf M σ H ∧ RepAll Hf ys yd ∧ w E yd sl M ∧
  (∀ yd' ys' sl' Hf' M' σ' H', Stp Hf M H Hf' M' H' → Rl sl' Hf' M' σ' H' → RepAll Hf' ys' yd' → E.nx yd' sl' M' → D.nx ys' σ' H') ∧
  (∀ c sl' Hf' M' σ' H', Stp Hf M H Hf' M' H' → Rl sl' Hf' M' σ' H' → E.ex c sl' M' → W c none σ' H')
section
variable {X : Cx} {W : WX} {e : Expr} {pos yp : Pos} {st : Stmt} {sts : List Stmt} {w u : WGn} {we : DL.WE}
theorem GS.imp {t t' : TGn} (h : GS X st t) (q : ∀ D ys σ H, t' D ys σ H → t D ys σ H) : GS X st t' := ⟨fun A S ip R n ys s₀ c fs K J gd lv s σ H D g hn k hI ht => h.run A S ip R n ys s₀ c fs K J gd lv s σ H D g hn k hI (q D ys σ H ht)⟩
theorem GSs.imp {t t' : TGn} (h : GSs X sts t) (q : ∀ D ys σ H, t' D ys σ H → t D ys σ H) : GSs X sts t' := ⟨fun A S ip R n ys s₀ c fs K J gd lv s σ H D g hn k hI ht => h.run A S ip R n ys s₀ c fs K J gd lv s σ H D g hn k hI (q D ys σ H ht)⟩
def wPlainG (w : WS) : WGn := fun E yd sl M => w ⟨fun sl' M' => E.nx yd sl' M', fun _ _ => False, fun _ _ => False, fun _ _ => False, E.ex⟩ sl M
theorem y_plain {w : WS} (h : PS X st (lowS W w)) : GS X st (lowG W (wPlainG w)) := by
  refine GS.imp (gs_ps h) fun D ys σ H ⟨sl, Hf, M, E, yd, rl, ry, q, k1, k2⟩ => ?_
  exact ⟨sl, Hf, M, _, rl, q, fun sl' Hf' M' σ' H' s r z => k1 yd ys sl' Hf' M' σ' H' s r (ry.mono s.up) z, fun _ _ _ _ _ _ _ z => z.elim, fun _ _ _ _ _ _ _ z => z.elim, fun _ _ _ _ _ _ _ z => z.elim, k2⟩
def wNilG : WGn := fun E yd sl M => E.nx yd sl M
theorem y_nil : GSs X [] (lowG W wNilG) := GSs.imp gss_nil fun D ys σ H ⟨sl, Hf, M, E, yd, rl, ry, q, k1, k2⟩ => k1 yd ys sl Hf M σ H (Stp.refl rl.wd) rl ry q
def wThenG (w u : WGn) : WGn := fun E yd sl M => w { E with nx := u E } yd sl M
theorem y_cons (h1 : GS X st (lowG W w)) (h2 : GSs X sts (lowG W u)) : GSs X (st :: sts) (lowG W (wThenG w u)) := by
  refine GSs.imp (gss_cons h1 h2) fun D ys σ H ⟨sl, Hf, M, E, yd, rl, ry, q, k1, k2⟩ => ?_
  exact ⟨sl, Hf, M, { E with nx := u E }, yd, rl, ry, q, fun yd1 ys1 sl1 Hf1 M1 σ1 H1 s1 r1 y1 z => ⟨sl1, Hf1, M1, E, yd1, r1, y1, z, fun yd' ys' sl' Hf' M' σ' H' s => k1 yd' ys' sl' Hf' M' σ' H' (s1.trans s), fun c sl' Hf' M' σ' H' s => k2 c sl' Hf' M' σ' H' (s1.trans s)⟩, k2⟩
def wYield (we : DL.WE) : WGn := fun E yd sl M => yd.length < 100000 ∧ we sl M (fun d M1 => E.nx (yd ++ [d]) sl M1) (fun c M => E.ex c sl M)
theorem y_yield (he : PE X e (low W we)) (hco : X.env.scope.isCoroutine = false := by rfl) (hi : interactive X.env = false := by rfl) : GS X (.Expr (.Yield (some e) yp) pos) (lowG W (wYield we)) := by
  refine GS.imp (gs_yield he hco hi) fun D ys σ H ⟨sl, Hf, M, E, yd, rl, ry, ⟨hl, q⟩, k1, k2⟩ => ⟨by rw [ry.length]; exact sz5lt hl, sl, Hf, M, _, _, rl, q, fun d Hf1 M1 v H1 s1 r1 z => ?_, fun c Hf' M' H' s z => k2 c sl Hf' M' σ H' s (rl.step s) z⟩
  exact k1 _ _ sl Hf1 M1 σ H1 s1 (rl.step s1) ((ry.mono s1.up).append (.cons r1 .nil)) z
def forGoG (t : Tg) (tb : WGn) (E : GE) : List Dd → List Dd → DS → MS → Prop
  | [], yd, sl, M => E.nx yd sl M
  | d :: ds, yd, sl, M => t.put d sl fun sl1 => tb { E with nx := forGoG t tb E ds } yd sl1 M
def wForG (wi : WA) (t : Tg) (tb : WGn) : WGn := fun E yd sl M => wi sl M (fun ds M1 => forGoG t tb E ds yd sl M1) (fun c M => E.ex c sl M)
theorem y_for {tg iter : Expr} {body : List Stmt} {wi : WA} {t : Tg} {tb : WGn} (hp : PassesOwn (model X.prog X.w) X.A X.env X.xe) (hc : X.calm = true) (hi : PI X tg iter (lowI W wi)) (hg : PG X tg (t.tg X.K)) (hb : GSs X body (lowG W tb))
    (hs : ∀ x, foldedSetIterable iter X.env x = pure x := by intro _; rfl) : GS X (.For tg iter body [] pos) (lowG W (wForG wi t tb)) := by
  refine GS.imp (gs_for hp hc hi hg hb hs) fun D ys σ H ⟨sl, Hf, M, E, yd, rl, ry, w, k1, k5⟩ => ⟨sl, Hf, M, _, _, rl, w, fun ds Hf1 M1 J H1 s1 wd w1 => ?_, fun c Hf' M' H' s q => k5 c sl Hf' M' σ H' s (rl.step s) q⟩
  refine ⟨fun i m ys σ H => m = ds.length - i ∧ i ≤ ds.length ∧ ∃ sl Hf M yd, Rl sl Hf M σ H ∧ RepAll Hf ys yd ∧ Stp Hf1 M1 H1 Hf M H ∧ forGoG t tb E (ds.drop i) yd sl M, ⟨ds.length, by simp, Nat.zero_le _, sl, Hf1, M1, yd, rl.step s1, ry.mono s1.up, Stp.refl s1.wd, by simpa using w1⟩, ?_⟩
  rintro i m ys2 σ2 H2 ⟨rfl, hi, sl2, Hf2, M2, yd2, rl2, ry2, st2, g2⟩
  have sf : Same Hf1 H2 := st2.up.trans st2.wd.le
  by_cases hlt : i < ds.length
  · refine .inr ⟨wd.goes i H2 hlt sf, fun ys σ H => ∃ sl Hf M yd, Rl sl Hf M σ H ∧ RepAll Hf ys yd ∧ Stp Hf1 M1 H1 Hf M H ∧ forGoG t tb E (ds.drop (i + 1)) yd sl M, fun ys' σ' H' h => ⟨ds.length - (i + 1), by omega, rfl, hlt, h⟩, fun x H3 y => ?_⟩
    obtain ⟨Hf3, d, gr, hd, rd⟩ := wd.yields i Hf2 H2 x H3 hlt st2.up st2.wd.le y
    have s3 : Stp Hf2 M2 H2 Hf3 M2 H3 := Stp.grow st2.wd gr
    rw [List.drop_eq_getElem_cons hlt] at g2
    have ed : ds[i] = d := by
      rw [List.getElem?_eq_getElem hlt] at hd
      exact Option.some.inj hd
    rw [ed] at g2
    refine Tg.takes (rl2.step s3) rd g2 fun sl' σ' r' q' => ?_
    have s4 : Stp Hf1 M1 H1 Hf3 M2 H3 := st2.trans s3
    exact ⟨sl', Hf3, M2, _, yd2, r', ry2.mono s3.up, q', fun yd'' ys'' sl'' Hf' M' σ'' H' s r y q => ⟨sl'', Hf', M', yd'', r, y, s4.trans s, q⟩, fun c sl'' Hf' M' σ'' H' s => k5 c sl'' Hf' M' σ'' H' ((s1.trans s4).trans s)⟩
  · have e : i = ds.length := by omega
    subst e
    rw [List.drop_length] at g2
    exact .inl ⟨wd.stops H2 sf, k1 yd2 ys2 sl2 Hf2 M2 σ2 H2 (s1.trans st2) rl2 ry2 g2⟩
end
/-! ### a generator def -/
abbrev SpGD := List Dd → MS → (List Dd → MS → Prop) → XD → Prop
def liftG (n : Nat) (sp : SpGD) : SpG := fun vs H Q E => ∃ ds Hf M Qd Xd, ds.length = n ∧ RepAll Hf vs ds ∧ Wd Hf M H ∧ sp ds M Qd Xd ∧
  (∀ yd Hf' M' ys H', Stp Hf M H Hf' M' H' → RepAll Hf' ys yd → Qd yd M' → Q ys H') ∧ (∀ c Hf' M' H', Stp Hf M H Hf' M' H' → Xd c M' → E c none H')
structure FnGen (P : Program) (w : World) (K : PySem.W.Frag) (mg : Str → Option Value) (base : Heap) (name : Str) (n k : Nat) (sp : SpGD) : Prop where
  ex : ∃ (f : Addr) (fd : FuncData) (ps : List Str), GFn P w K mg base k f fd ps (liftG n sp) ∧ Binds K fd ps [] ∧ mg name = some (.ref f) ∧ PySem.W.keepIn K (.ref f) = true
section
variable {P : Program} {w : World} {K : PySem.W.Frag} {mg : Str → Option Value} {base : Heap}
abbrev DerG (P : Program) (w : World) (K : PySem.W.Frag) (mg : Str → Option Value) (base : Heap) (k : Nat) (N : List Str) (qual : Str) (f : Addr) (scope : Scope) (body : List Stmt) (ww : WGn) : Prop :=
  ∀ (cdv : Value) (A : Around) (outer : List Env) (s : Shared) (H : Hp) (E : XK) (pn : List (Addr × Obj)), Room k (A.deeper (envOfC qual scope s.heap.objs.size f cdv)) →
    Takes (gcxOf P w K mg base N qual scope f cdv A outer s H E pn) (fun c d _ H => E c d H) → PassesOwn (model P w) (gcxOf P w K mg base N qual scope f cdv A outer s H E pn).A (gcxOf P w K mg base N qual scope f cdv A outer s H E pn).env (gcxOf P w K mg base N qual scope f cdv A outer s H E pn).xe →
    GSs (gcxOf P w K mg base N qual scope f cdv A outer s H E pn) body (lowG (fun c d _ H => E c d H) ww)
theorem gen_top {name : Str} {st : Stmt} {N ps : List Str} {n k : Nat} {sp : SpGD} (D : DefOf K mg name st) (S : GScope N ps (defScope st)) (hn : ps.length = n)
    (hbi : ∀ (kV doc pm : Value) (an : Option Addr) (cdv ct : Value) (us : List Value), us.length = ps.length → bindArgs (PySem.W.fnOf name name (defArgs st) (defBody st) (defScope st) .none kV doc pm an cdv ct) ⟨us, []⟩ = pure (ps.zip us))
    (hb : ∃ ww : WGn, DerG P w K mg base k N name (He.ga K name) (defScope st) (defBody st) ww ∧ ∀ ds M Q E, ds.length = n → sp ds M Q E → ww ⟨fun yd _ M => Q yd M, fun c _ M => E c M⟩ [] (startD N ds) M) : FnGen P w K mg base name n (k + 1) sp := by
  obtain ⟨fd, F⟩ := D.fd
  have bi := F.bindsN hbi
  have kp := F.kp
  obtain ⟨oc, od, dV, kV, doc, pm, an, cdv, ct, osl, rfl, lk, code, _, _⟩ := F.ex
  obtain ⟨ww, hd, hr⟩ := hb
  refine ⟨⟨_, _, ps, gfn_of lk code S (fun vs H Q E h => ?_) (fun A outer s H vs Q E pn room h => ?_), bi, D.gl, kp⟩⟩
  · obtain ⟨ds, _, _, _, _, e, r, _⟩ := h
    rw [r.length, e, hn]
  · refine ⟨_, hd cdv A outer s H E pn room takes_gcx owns_gcx, ?_⟩
    obtain ⟨ds, Hf, M, Qd, Xd, hl, r, wd, q, k1, k2⟩ := h
    exact ⟨startD N ds, Hf, M, _, [], r.start wd, .nil, hr ds M Qd Xd hl q, fun yd' ys' sl' Hf' M' σ' H' s _ ry z => k1 yd' Hf' M' ys' H' s ry z, fun c sl' Hf' M' σ' H' s _ z => k2 c Hf' M' H' s z⟩
end
section
variable {X : Cx} {W : WX} {e : Expr} {es : List Expr} {pos pos' p p2 : Pos}
def wListG (n : Nat) (sp : SpGD) (wa : WA) : DL.WE := fun sl M Q E => wa sl M (fun ds M1 => ds.length = n ∧ sp ds M1 (fun yd M2 => Q (.lst yd) M2) (fun _ _ => False)) E
/-- list(g(e, ..)) of a generator def that lets nothing out -/
theorem d_listG {name : Str} {n k : Nat} {sp : SpGD} {wr : WA} (F : FnGen X.prog X.w X.K X.mg X.base name n k sp) (hr : Room (k + 3) X.A) (hg : Gl X name) (hl : Gl X "list") (hlm : X.mg "list" = none) (ha : PA X (e :: es) (lowA W wr)) (hdb : (name == ("__debug__" : Str)) = false := by decide)
    (he : starEach (e :: es) X.env = (false, eval e X.env) :: starEach es X.env := by rfl) (hpl : (backTo pos' (starEach es X.env)).any (·.1) = false := by rfl)
    (he1 : starEach [Expr.Call (.Name name p) (e :: es) [] pos'] X.env = (false, eval (Expr.Call (.Name name p) (e :: es) [] pos') X.env) :: starEach [] X.env := by rfl) :
    PE X (.Call (.Name "list" p2) [.Call (.Name name p) (e :: es) [] pos'] [] pos) (low W (wListG n sp wr)) := by
  obtain ⟨f, fd, ps, G, bi, hm, hk⟩ := F.ex
  have g := pgen_call (E := fun _ _ _ => False) (p := p) (pos' := pos') G (hr.mono (by omega)) hg hm hk bi .nil ha hdb he hpl
  refine PE.imp (pe_listG g (fun pins σ H s e s' I c => ?_) (fun cls d H h => h.elim) hr hl hlm (by kernel_rfl) (by decide) (by decide) he1) fun σ H Q ⟨sl, Hf, M, Qd, Xd, rl, w, k, kx⟩ => ⟨sl, Hf, M, _, Xd, rl, w, fun ds Hf1 M1 vs H1 s1 r1 ⟨hn, q⟩ => ?_, kx⟩
  · obtain ⟨_, _, _, _, _, _, _, _, _, _, _, _, z⟩ := c
    exact z.elim
  · dsimp only; rw [List.append_nil]
    refine ⟨ds, Hf1, M1, _, _, hn, r1, s1.wd, q, fun yd Hf2 M2 ys H2 s2 r2 q2 pp hp => ?_, fun c Hf' M' H' s z => z.elim⟩
    have gr : Grow Hf2 H2 (upd Hf2 pp (.lst ys)) (upd H2 pp (.lst ys)) := Grow.one s2.wd.le hp
    have st := Stp.grow s2.wd gr
    exact k (.lst yd) _ M2 _ _ ((s1.trans s2).trans st) (.lst upd_same (r2.mono gr.fz)) q2
end
end DL
/-! DG3: the cases that matter, plainly. -/
namespace DL
open PySem PySem.Spec PyProof.Rows L2 Enc TL
def aStep (f : List Case) (x : Case) : List Case := f ++ (f.filter fun o => meetC o x).map fun o => tog o x
def aL (cs : List Case) : List Case := cs.foldl aStep [[]]
theorem aL_snoc (cs : List Case) (x : Case) : aL (cs ++ [x]) = aStep (aL cs) x := by
  unfold aL
  rw [List.foldl_append]
  rfl
theorem mem_aStep {f : List Case} {x c : Case} : c ∈ aStep f x ↔ c ∈ f ∨ ∃ o ∈ f, meetC o x = true ∧ c = tog o x := by
  unfold aStep
  rw [List.mem_append, List.mem_map]
  constructor
  · rintro (h | ⟨o, h, rfl⟩)
    · exact .inl h
    · exact .inr ⟨o, (List.mem_filter.mp h).1, (List.mem_filter.mp h).2, rfl⟩
  · rintro (h | ⟨o, h, m, rfl⟩)
    · exact .inl h
    · exact .inr ⟨o, List.mem_filter.mpr ⟨h, m⟩, rfl⟩
theorem mem_aStep_congr {f g : List Case} {x c : Case} (h : ∀ c, c ∈ f ↔ c ∈ g) : c ∈ aStep f x ↔ c ∈ aStep g x := by
  rw [mem_aStep, mem_aStep, h c]
  constructor
  · rintro (z | ⟨o, a, b⟩)
    · exact .inl z
    · exact .inr ⟨o, (h o).mp a, b⟩
  · rintro (z | ⟨o, a, b⟩)
    · exact .inl z
    · exact .inr ⟨o, (h o).mpr a, b⟩
theorem aStep_len (f : List Case) (x : Case) : (aStep f x).length ≤ 2 * f.length := by
  unfold aStep
  have := List.length_filter_le (fun o => meetC o x) f
  rw [List.length_append, List.length_map]
  omega
theorem aL_len (cs : List Case) : (aL cs).length ≤ 2 ^ cs.length := by
  have key : ∀ (l f : List Case) (k : Nat), f.length ≤ 2 ^ k → (l.foldl aStep f).length ≤ 2 ^ (k + l.length) := by
    intro l
    induction l with
    | nil => intro f k h; exact h
    | cons x l ih =>
      intro f k h
      have a := aStep_len f x
      have := ih (aStep f x) (k + 1) (by rw [Nat.pow_succ]; omega)
      rw [List.length_cons, show k + (l.length + 1) = k + 1 + l.length by omega]
      exact this
  have := key cs [[]] 0 (by simp)
  simpa [aL] using this
theorem aL_keep {cs : List Case} : ∀ (f : List Case) (c : Case), c ∈ f → c ∈ cs.foldl aStep f := by
  induction cs with
  | nil => intro f c h; exact h
  | cons x cs ih => intro f c h; exact ih _ c (mem_aStep.mpr (.inl h))
theorem aL_nil (cs : List Case) : ([] : Case) ∈ aL cs := aL_keep _ _ (by simp)
theorem meet_nil (x : Case) : meetC [] x = true := (meet_iff (a := []) .nil).mpr fun _ _ y hy => by cases hy
theorem aL_mem {cs : List Case} (up : ∀ c ∈ cs, Up c) {x : Case} (h : x ∈ cs) : x ∈ aL cs := by
  have key : ∀ (l f : List Case), ([] : Case) ∈ f → (∀ c ∈ l, Up c) → x ∈ l → x ∈ l.foldl aStep f := by
    intro l
    induction l with
    | nil => intro f _ _ h; cases h
    | cons y l ih =>
      intro f h0 hu h
      rcases List.mem_cons.mp h with rfl | h
      · show x ∈ l.foldl aStep (aStep f x)
        refine aL_keep _ _ (mem_aStep.mpr (.inr ⟨[], h0, meet_nil _, ?_⟩))
        exact (tog_is (hu x List.mem_cons_self) fun z => by simp).symm
      · exact ih _ (mem_aStep.mpr (.inl h0)) (fun c hc => hu c (List.mem_cons_of_mem _ hc)) h
  exact key cs [[]] (by simp) up h
theorem aL_ok {cs : List Case} (ok : ∀ c ∈ cs, okCase c = true) : ∀ c ∈ aL cs, okCase c = true := by
  have key : ∀ (l f : List Case), (∀ c ∈ f, okCase c = true) → (∀ c ∈ l, okCase c = true) → ∀ c ∈ l.foldl aStep f, okCase c = true := by
    intro l
    induction l with
    | nil => intro f h _; exact h
    | cons y l ih =>
      intro f h hl
      refine ih _ (fun c hc => ?_) fun c hc => hl c (List.mem_cons_of_mem _ hc)
      rcases mem_aStep.mp hc with z | ⟨o, ho, m, rfl⟩
      · exact h c z
      · exact tog_ok (h o ho) (hl y List.mem_cons_self) m
  exact key cs [[]] (fun c hc => by rw [List.mem_singleton.mp hc]; decide) ok
/-- fewer than there could be -/
def FewA (cs : List Case) : Prop := ∃ V : List Case, V.length + 1 ≤ 2 ^ cs.length ∧ ∀ c, c ∈ V ↔ c ∈ aL cs
theorem FewA.step {cs : List Case} (h : FewA cs) (x : Case) : FewA (cs ++ [x]) := by
  obtain ⟨V, l, m⟩ := h
  refine ⟨aStep V x, ?_, fun c => by rw [aL_snoc]; exact mem_aStep_congr m⟩
  have := aStep_len V x
  rw [List.length_append, List.length_singleton, Nat.pow_succ]
  omega
theorem few_or {cs : List Case} (ok : ∀ c ∈ cs, okCase c = true) : FewA cs ∨ ∃ t ∈ aL cs, cs.length ≤ t.length := by
  have key : ∀ (n : Nat) (l : List Case), l.length = n → (∀ c ∈ l, okCase c = true) → FewA l ∨ ∃ t ∈ aL l, l.length ≤ t.length := by
    intro n
    induction n with
    | zero =>
      intro l hl _
      exact .inr ⟨[], aL_nil l, by omega⟩
    | succ n ih =>
      intro l hl ok
      obtain ⟨m, x, rfl⟩ : ∃ m x, l = m ++ [x] := by
        have : l ≠ [] := by rintro rfl; cases hl
        exact ⟨l.dropLast, l.getLast this, (List.dropLast_concat_getLast this).symm⟩
      have hm : m.length = n := by simpa using hl
      have okm : ∀ c ∈ m, okCase c = true := fun c hc => ok c (List.mem_append_left _ hc)
      have okx : okCase x = true := ok x (by simp)
      rcases ih m hm okm with h | ⟨t, ht, hlen⟩
      · exact .inl (h.step x)
      · have okt := aL_ok okm t ht
        have lf := aL_len m
        have fl := List.length_filter_le (fun o => meetC o x) (aL m)
        cases hmt : meetC t x with
        | false =>
          have lt : ((aL m).filter fun o => meetC o x).length < (aL m).length := List.length_filter_lt_length_iff_exists.mpr ⟨t, ht, by rw [hmt]; decide⟩
          refine .inl ⟨aStep (aL m) x, ?_, fun c => by rw [aL_snoc]⟩
          unfold aStep
          rw [List.length_append, List.length_map, List.length_append, List.length_singleton, Nat.pow_succ]
          omega
        | true =>
          have mem : tog t x ∈ aL (m ++ [x]) := by rw [aL_snoc]; exact mem_aStep.mpr (.inr ⟨t, ht, hmt, rfl⟩)
          have okt' := tog_ok okt okx hmt
          by_cases hl2 : t.length < (tog t x).length
          · exact .inr ⟨_, mem, by rw [List.length_append, List.length_singleton]; omega⟩
          · have e : t = tog t x := in_full (up_of okt) (up_of okt') (inC_iff.mpr fun z hz => mem_tog.mpr (.inl hz)) (by omega)
            have hin : tog t x ∈ ((aL m).filter fun o => meetC o x).map fun o => tog o x := List.mem_map.mpr ⟨t, List.mem_filter.mpr ⟨ht, hmt⟩, rfl⟩
            refine .inl ⟨aL m ++ (((aL m).filter fun o => meetC o x).map fun o => tog o x).erase (tog t x), ?_, fun c => ?_⟩
            · have := List.length_erase_of_mem hin
              have pos := List.length_pos_of_mem hin
              rw [List.length_map] at this pos
              rw [List.length_append, List.length_append, List.length_singleton, Nat.pow_succ, this]
              omega
            · rw [aL_snoc]
              unfold aStep
              rw [List.mem_append, List.mem_append]
              constructor
              · rintro (h | h)
                · exact .inl h
                · exact .inr (List.mem_of_mem_erase h)
              · rintro (h | h)
                · exact .inl h
                · by_cases hc : c = tog t x
                  · exact .inl (by rw [hc, ← e]; exact ht)
                  · exact .inr ((List.mem_erase_of_ne hc).mpr h)
  exact key cs.length cs rfl ok
theorem few_a {cs : List Case} (ok : ∀ c ∈ cs, okCase c = true) (h : 6 ≤ cs.length) : FewA cs := by
  rcases few_or ok with h | ⟨t, ht, hl⟩
  · exact h
  · have := upC_len (aL_ok ok t ht)
    omega
theorem nodup_a {cs U : List Case} (ok : ∀ c ∈ cs, okCase c = true) (h : cs.length ≤ 12) (nd : U.Nodup) (sub : ∀ c ∈ U, c ∈ aL cs) : U.length ≤ 4095 ∧ (cs.length ≤ 11 → U.length ≤ 2047) := by
  by_cases h6 : 6 ≤ cs.length
  · obtain ⟨V, l, m⟩ := few_a ok h6
    have h1 := nodup_sub_len nd fun c hc => (m c).mpr (sub c hc)
    have h3 : 2 ^ cs.length ≤ 2 ^ 12 := Nat.pow_le_pow_right (by decide) h
    refine ⟨by omega, fun h11 => ?_⟩
    have h4 : 2 ^ cs.length ≤ 2 ^ 11 := Nat.pow_le_pow_right (by decide) h11
    omega
  · have h1 := nodup_sub_len nd sub
    have h2 := aL_len cs
    have h3 : 2 ^ cs.length ≤ 2 ^ 5 := Nat.pow_le_pow_right (by decide) (by omega)
    omega
/-- conditions behind others -/
def szC (c : Case) : Int × Case := ((c.length : Int), c)
end DL
namespace DL
open PySem PySem.Spec PyProof.Rows L2 Enc TL
/-- for x in xs: yield x -/
theorem forY {α : Type} [Enc α] {xs : List α} {i : Nat} {E : GE} {sl : DS} {M : MS} (hi : xs.length ≤ 50000) (hl : i < sl.length) (k : ∀ sl', E.nx (xs.map enc) sl' M) : forGoG (.nm i) (wThenG (wYield (wVar i)) wNilG) E (xs.map enc) [] sl M := by
  have key : ∀ (l : List α) (yd : List Dd) (sl : DS), yd.length + l.length ≤ 50000 → i < sl.length → (∀ sl', E.nx (yd ++ l.map enc) sl' M) → forGoG (.nm i) (wThenG (wYield (wVar i)) wNilG) E (l.map enc) yd sl M := by
    intro l
    induction l with
    | nil =>
      intro yd sl _ _ k
      have := k sl
      rw [List.map_nil, List.append_nil] at this
      exact this
    | cons a l ih =>
      intro yd sl hl hs k
      rw [List.length_cons] at hl
      refine put_nm ?_
      refine ⟨by omega, _, List.getElem?_set_self hs, ?_⟩
      refine ih (yd ++ [enc a]) _ (by rw [List.length_append, List.length_singleton]; omega) (by rw [List.length_set]; exact hs) fun sl' => ?_
      have := k sl'
      rw [List.append_assoc]
      exact this
  exact key xs [] sl (by simpa using hi) hl k
end DL
/-! DG4: t[::-1] of a tuple. -/
namespace HT
open PySem PySem.Spec PyProof.Rows L2
section
variable {prog : Program} {w : World} {A : Around} {E : Value → Shared → Prop} {s : Shared}
theorem applied_back {sl : Addr} {vl vu vs : Value} {n : Nat} {Q : Int × Int × Nat → Shared → Prop} (hs : s.heap.IsSliceOf sl vl vu vs) (pl : IsPart vl none) (pu : IsPart vu none) (ps : IsPart vs (some (-1)))
    (h : Q ((n : Int) - 1, -1, n) s) : wpAny (model prog w) A (Builtin.Slice.sliceApplied (.ref sl) (pure (n : Int))) Q E s := by
  obtain ⟨os, hos, hcs, hds⟩ := id hs
  unfold Builtin.Slice.sliceApplied Builtin.Slice.sliceFields
  refine wpAny_bind (wpAny_bind (wpAny_field hos hds (x := vl) rfl (wpAny_bind (wpAny_field hos hds (x := vu) rfl (wpAny_bind (wpAny_field hos hds (x := vs) rfl (wpAny_pure ?_)))))))
  refine wpAny_bind (slicePart_ ps ?_)
  show wpAny _ _ (if ((-1 : Int) == 0) = true then _ else _) _ _ s
  rw [if_neg (by decide)]
  refine wpAny_bind (slicePart_ pl (wpAny_bind (slicePart_ pu (wpAny_bind (wpAny_pure ?_)))))
  have e2 : Builtin.Slice.slicePlaces ((n : Int) - 1) (-1) (-1) = n := by
    unfold Builtin.Slice.slicePlaces
    rw [if_neg (by decide)]
    by_cases h0 : n = 0
    · subst h0; rfl
    · rw [if_pos (by omega), show (- -1 : Int) = 1 by decide, Int.ediv_one]
      omega
  show wpAny _ _ (pure ((n : Int) - 1, (-1 : Int), Builtin.Slice.slicePlaces ((n : Int) - 1) (-1) (-1))) _ _ s
  rw [e2]
  exact wpAny_pure h
theorem fm_congr {α β : Type} {f g : α → Option β} : ∀ {l : List α}, (∀ x ∈ l, f x = g x) → l.filterMap f = l.filterMap g
  | [], _ => rfl
  | a :: l, h => by rw [List.filterMap_cons, List.filterMap_cons, h a List.mem_cons_self, fm_congr fun x hx => h x (List.mem_cons_of_mem _ hx)]
theorem pick_back (xs : Array Value) : ((List.range xs.size).filterMap fun (k : Nat) => xs[((xs.size : Int) - 1 + (k : Int) * -1).toNat]?).toArray = xs.toList.reverse.toArray := by
  have e : (List.range xs.size).filterMap (fun (k : Nat) => xs[((xs.size : Int) - 1 + (k : Int) * -1).toNat]?) = ((List.range xs.size).map fun k => xs.size - 1 - k).filterMap (xs[·]?) := by
    rw [List.filterMap_map]
    refine fm_congr fun k hk => ?_
    have := List.mem_range.mp hk
    show xs[((xs.size : Int) - 1 + (k : Int) * -1).toNat]? = xs[xs.size - 1 - k]?
    rw [show ((xs.size : Int) - 1 + (k : Int) * -1).toNat = xs.size - 1 - k by omega]
  rw [e, PySem.W.krv_range, List.filterMap_reverse, PySem.W.krv_all]
theorem getItem_tuple_back {t sl : Addr} {items : Array Value} {vl vu vs : Value} {Q : Value → Shared → Prop} (ht : IsTup s.heap t items) (hs : s.heap.IsSliceOf sl vl vu vs) (pl : IsPart vl none) (pu : IsPart vu none) (ps : IsPart vs (some (-1)))
    (h : Q (.ref s.heap.objs.size) { s with heap := s.heap.push { cls := .type "tuple", data := .seq items.toList.reverse.toArray } }) (hsz : items.size ≤ sizeLine) : wpAny (model prog w) A (getItem (.ref t) (.ref sl)) Q E s := by
  have hz : sizeOk (.seq items.toList.reverse.toArray) := by
    show items.toList.reverse.toArray.size ≤ sizeLine
    rw [List.size_toArray, List.length_reverse, Array.length_toList]
    exact hsz
  obtain ⟨os, hos, hcs, hds⟩ := id hs
  have hTs : s.TypeIs (.ref sl) "slice" := ⟨os, hos, hcs⟩
  unfold getItem
  try with_reducible refine wpAny_holding ?_
  first | refine wpAny_bind (wpAny_pure ?_) | skip
  refine wpAny_bind (wpAny_sequenceKey ht.typeIs (by decide) ?_)
  refine wpAny_bind (wpAny_callSpecial?_slot (name := Str.ofString "__getitem__") ht.typeIs PyProof.Rows.slot_tuple_getitem
    (wpAny_call_entry PyProof.Rows.slot_tuple_getitem ht.typeIs entry_tuple_getitem ?_ (args_tuple_getitem _ _)))
  show wpAny _ _ (Builtin.Tuple.tupleItemsOf (.ref t) >>= _) _ _ s
  refine wpAny_bind (tupleItemsOf_ ht ?_)
  refine wpAny_bind (wpAny_typeOf hTs ?_)
  rw [if_pos (by decide)]
  refine wpAny_bind (applied_back hs pl pu ps ?_)
  have hno : ¬ ((((items.size : Int) - 1) == 0 && (-1 : Int) == 1 && items.size == items.size) = true) := by
    rw [show ((-1 : Int) == 1) = false by decide, Bool.and_false, Bool.false_and]
    exact Bool.false_ne_true
  show wpAny _ _ (if (((items.size : Int) - 1) == 0 && (-1 : Int) == 1 && items.size == items.size) = true then _ else _) _ _ s
  rw [if_neg hno, pick_back]
  first
    | exact wpAny_bind (m := Builtin.Tuple.tupleExact _) (wpAny_newObj_type (wpAny_pure ⟨_, rfl, wpAny_pure h⟩) hz)
    | exact wpAny_bind (m := Builtin.Tuple.tupleExact _) (wpAny_newObj_type (wpAny_bind (wpAny_pure (wpAny_pure ⟨_, rfl, wpAny_pure h⟩))) hz)
    | exact wpAny_bind (wpAny_bind (m := Builtin.Tuple.tupleExact _) (wpAny_newObj_type (wpAny_pure (wpAny_pure ⟨_, rfl, wpAny_pure h⟩)) hz))
    | exact wpAny_bind (wpAny_bind (m := Builtin.Tuple.tupleExact _) (wpAny_newObj_type (wpAny_pure ⟨_, rfl, wpAny_pure h⟩) hz))
end
end HT
namespace DL
open PySem PySem.Spec PyProof.Rows L2 Enc TL
section
variable {X : Cx} {W : WX} {e : Expr} {pos : Pos} {we : DL.WE}
def tRevT (K : PySem.W.Frag) (te : TE) : TE := fun σ H Q => te σ H fun x H1 => ∃ a xs, x = .ref a ∧ SqT K H1 a xs ∧ ∀ p o, H1 p = none → o.dict = none → Q (.ref p) (upd H1 p (.frz o (.tup xs.reverse)))
theorem pe_revT {te : TE} {k : Nat} {p1 p2 p3 : Pos} (he : PE X e te) : PE X (.Subscript e (.Slice none none (some (.UnaryOp .USub (.Constant (.int 1) k p1) p2)) p3) pos) (tRevT X.K te) := by
  refine ⟨fun pins s σ H Q I h => ?_⟩
  refine Subscript_ (thn (he.run pins s σ H _ I h) fun v s1 ⟨x, H1, I1, r1, q1⟩ => ?_)
  obtain ⟨a, xs, ex, hx, q⟩ := q1
  subst ex
  cases r1
  have hst : PO X (some (.UnaryOp .USub (.Constant (.int 1) k p1) p2)) (tPart (tUn (rU fun i => .int (-i)) (tC (.int 1)))) := po_some (pe_un un_neg pe_int)
  refine wpAny_Slice (thn (po_none.run pins s1 σ H1 (fun o H2 => o = none ∧ H2 = H1) I1 ⟨rfl, rfl⟩) fun vl s2 ⟨l, H2, I2, pl, el, e2⟩ => ?_)
  subst el e2
  refine thn (po_none.run pins s2 σ H2 (fun o H3 => o = none ∧ H3 = H2) I2 ⟨rfl, rfl⟩) fun vu s3 ⟨u, H3, I3, pu, eu, e3⟩ => ?_
  subst eu e3
  refine thn (hst.run pins s3 σ H3 (fun o H4 => o = some (-1) ∧ H4 = H3) I3 ⟨1, rfl, -1, rfl, rfl, rfl⟩) fun vs s4 ⟨o, H4, I4, ps, eo, e4⟩ => ?_
  subst eo e4
  have I5 : Inv X pins σ H4 { s4 with heap := s4.heap.push { cls := .type "slice", data := .fields #[vl, vu, vs] } } := I4.kept (t' := s4.toks) fun b ob q => Heap.get?_push_of_some _ q
  obtain ⟨its, r, ht, hz⟩ := I5.tuple hx
  have en : its.toArray.size = xs.length := by rw [List.size_toArray, r.length]
  show wpAny (model X.prog X.w) X.A (subscriptTail e (.Slice none none (some (.UnaryOp .USub (.Constant (.int 1) k p1) p2)) p3) (.ref a) (.ref s4.heap.objs.size)) (EP X pins σ Q) X.xe { s4 with heap := s4.heap.push { cls := .type "slice", data := .fields #[vl, vu, vs] } }
  refine tail_any (ops := [.ref a, .ref s4.heap.objs.size]) ht.typeIs (PyProof.Rows.slot_tuple_getitem.lookup) ?_ (by with_unfolding_all rfl)
  refine HT.getItem_tuple_back ht (Heap.IsSliceOf.new _ vl vu vs) pl pu ps ?_ (by rw [en]; exact hz)
  exact ⟨.ref _, _, I5.laid (t' := s4.toks) (fun _ _ q => Heap.get?_push_of_some _ q) (Nat.le_refl _) (tOb_ok r.reverse (by rw [List.length_reverse]; exact hz)), rfl, q _ _ (I5.hok.fresh (Nat.le_refl _)) rfl⟩
def wRevT (we : DL.WE) : DL.WE := fun sl M Q E => we sl M (fun d M1 => ∃ ds, der M1 d = .tup ds ∧ Q (.tup ds.reverse) M1) E
theorem d_revT {k : Nat} {p1 p2 p3 : Pos} (he : PE X e (low W we)) : PE X (.Subscript e (.Slice none none (some (.UnaryOp .USub (.Constant (.int 1) k p1) p2)) p3) pos) (low W (wRevT we)) := by
  refine PE.imp (pe_revT he) fun σ H Q ⟨sl, Hf, M, Qd, Xd, rl, w, k, kx⟩ => ⟨sl, Hf, M, _, Xd, rl, w, fun d Hf1 M1 v H1 s1 r1 ⟨ds, hd, w1⟩ => ?_, kx⟩
  have rt := RepT.of s1.wd r1
  rw [hd] at rt
  obtain ⟨a, xs, rfl, ha, r⟩ := rt.tup
  refine ⟨a, xs, rfl, .inl (rd_mono s1.wd.le ha), fun p o hp ho => ?_⟩
  have g := Grow.one (o := .frz o (.tup xs.reverse)) s1.wd.le hp
  exact k _ _ M1 _ _ (s1.trans (Stp.grow s1.wd g)) (.tup upd_same ho (r.reverse.mono g.fz)) w1
end
end DL
/-! DPa: parts of a list, a rule more; plainly. -/
namespace DL
open PySem PySem.Spec PyProof.Rows L2 Enc TL
theorem tog_symm (a b : Case) : tog a b = tog b a := tog_eq fun x => Or.comm
/-- two conditions that meet, put together, are among the cases -/
theorem aL_tog {cs : List Case} (ok : ∀ c ∈ cs, okCase c = true) {x y : Case} (hx : x ∈ cs) (hy : y ∈ cs) (hm : meetC x y = true) : tog x y ∈ aL cs := by
  have key : ∀ (n : Nat) (l : List Case), l.length = n → (∀ c ∈ l, okCase c = true) → ∀ x ∈ l, ∀ y ∈ l, meetC x y = true → tog x y ∈ aL l := by
    intro n
    induction n with
    | zero =>
      intro l hl _ x hx
      rw [List.length_eq_zero_iff.mp hl] at hx
      cases hx
    | succ n ih =>
      intro l hl ok x hx y hy hm
      obtain ⟨m, z, rfl⟩ : ∃ m z, l = m ++ [z] := by
        have : l ≠ [] := by rintro rfl; cases hl
        exact ⟨l.dropLast, l.getLast this, (List.dropLast_concat_getLast this).symm⟩
      have lm : m.length = n := by simpa using hl
      have okm : ∀ c ∈ m, okCase c = true := fun c hc => ok c (List.mem_append_left _ hc)
      have upm : ∀ c ∈ m, Up c := fun c hc => up_of (okm c hc)
      have upz : Up z := up_of (ok z (by simp))
      rw [aL_snoc]
      have two : ∀ a ∈ m, meetC a z = true → tog a z ∈ aStep (aL m) z := fun a ha h => mem_aStep.mpr (.inr ⟨a, aL_mem upm ha, h, rfl⟩)
      rcases List.mem_append.mp hx with hx | hx <;> rcases List.mem_append.mp hy with hy | hy
      · exact mem_aStep.mpr (.inl (ih m lm okm x hx y hy hm))
      · rw [List.mem_singleton.mp hy] at hm ⊢
        exact two x hx hm
      · rw [List.mem_singleton.mp hx] at hm ⊢
        rw [tog_symm]
        exact two y hy (meet_sym upz (upm y hy) hm)
      · rw [List.mem_singleton.mp hx, List.mem_singleton.mp hy]
        have e : tog z z = z := tog_is upz fun w => by simp
        rw [e, ← aL_snoc]
        exact aL_mem (fun c hc => up_of (ok c hc)) (by simp)
  exact key cs.length cs rfl ok x hx y hy hm
/-- a list with two results for a case does not go with one that has one -/
theorem torn_other {rs T : List Rule} (one : OneRes rs) (ok : ∀ r ∈ T, okRule r = true) (h : areSet T = false) : ∃ c ∈ aL (T.map (·.1)), ¬ ∀ k, k ∈ (decs rs c).map (·.2) ↔ k ∈ (decs T c).map (·.2) := by
  have up : ∀ r ∈ T, Up r.1 := fun r hr => up_of (rule_ok.mp (ok r hr)).1
  apply Classical.byContradiction
  intro no
  have : areSet T = true := (areSet_iff up).mpr fun r hr s hs ho => by
    apply Classical.byContradiction
    intro nz
    obtain ⟨h1, h2, h3, h4⟩ := opp_both ok hr hs ho fun z hz => by
      cases q : setC z r s with
      | false => rfl
      | true => exact absurd ⟨z, hz, q⟩ nz
    have hm : meetC r.1 s.1 = true := by
      unfold oppC at ho
      simp only [Bool.and_eq_true] at ho
      exact ho.2.1
    have okm : ∀ c ∈ T.map (·.1), okCase c = true := fun c hc => by
      obtain ⟨r, hr, rfl⟩ := List.mem_map.mp hc
      exact (rule_ok.mp (ok r hr)).1
    have hin := aL_tog okm (List.mem_map.mpr ⟨r, hr, rfl⟩) (List.mem_map.mpr ⟨s, hs, rfl⟩) hm
    refine no ⟨_, hin, fun e => ?_⟩
    obtain ⟨a, ha, ea⟩ := List.mem_map.mp ((e r.2).mpr (List.mem_map.mpr ⟨r, h2, rfl⟩))
    obtain ⟨b, hb, eb⟩ := List.mem_map.mp ((e s.2).mpr (List.mem_map.mpr ⟨s, h3, rfl⟩))
    exact h4 (by rw [← ea, ← eb]; exact one _ h1 a ha b hb)
  rw [h] at this
  cases this
/-- between the list and its smallest one -/
theorem Kept.part {rs S T : List Rule} (K : Kept rs S) (h1 : ∀ r ∈ S, r ∈ T) (h2 : ∀ r ∈ T, r ∈ rs) : Kept T S := ⟨h1, fun r hr => K.out r (h2 r hr), K.inn⟩
/-- a rule more that says what the list says -/
theorem more_same {rs os : List Rule} {c' : Case} {v : Int} (ok : ∀ r ∈ os, okRule r = true) (one1 : OneRes rs) (one : OneRes os) (mem : ∀ z, z ∈ os ↔ z ∈ rs ∨ z = (c', v)) (hv : ∀ k, k ∈ (decs rs c').map (·.2) ↔ k = v) {c : Case} (hc : okCase c = true) (k : Int) : k ∈ (decs rs c).map (·.2) ↔ k ∈ (decs os c).map (·.2) := by
  have upo : ∀ r ∈ os, Up r.1 := fun r hr => up_of (rule_ok.mp (ok r hr)).1
  have upr : ∀ r ∈ rs, Up r.1 := fun r hr => upo r ((mem r).mpr (.inl hr))
  have beat : ∀ d ∈ decs rs c, d ∉ decs os c → mat c (c', v) = true ∧ strW d.1 c' = true := fun d hd hin => by
    obtain ⟨d1, d2, d3⟩ := mem_decs.mp hd
    apply Classical.byContradiction
    intro n
    refine hin (mem_decs.mpr ⟨(mem d).mpr (.inl d1), d2, fun o ho hm => ?_⟩)
    rcases (mem o).mp ho with h | rfl
    · exact d3 o h hm
    · cases q : strW d.1 c' with
      | false => rfl
      | true => exact absurd ⟨hm, q⟩ n
  have low : ∀ d ∈ decs rs c, ∀ e ∈ decs os c, d.2 = e.2 := fun d hd e he => by
    by_cases ex : ∃ d2 ∈ decs rs c, d2 ∈ decs os c
    · obtain ⟨d2, h1, h2⟩ := ex
      rw [one1 c hc d hd d2 h1]
      exact one c hc d2 h2 e he
    · have all : ∀ d2 ∈ decs rs c, mat c (c', v) = true ∧ strW d2.1 c' = true := fun d2 h => beat d2 h fun h2 => ex ⟨d2, h, h2⟩
      have hm := (all d hd).1
      have inn : ∀ r ∈ rs, mat c r = true → strW r.1 c' = true := fun r hr hmr => by
        obtain ⟨d2, h1, h2⟩ := above upr hr hmr
        rcases h2 with rfl | h2
        · exact (all _ h1).2
        · exact str_trans h2 (str_in (all d2 h1).2).1 (Nat.le_of_lt (str_in (all d2 h1).2).2)
      obtain ⟨d1, d2, d3⟩ := mem_decs.mp hd
      have dv : d.2 = v := by
        refine (hv d.2).mp (List.mem_map.mpr ⟨d, mem_decs.mpr ⟨d1, (str_in (all d hd).2).1, fun o ho hmo => ?_⟩, rfl⟩)
        exact d3 o ho (inC_trans (show inC o.1 c' = true from hmo) (show inC c' c = true from hm))
      obtain ⟨e1, e2, e3⟩ := mem_decs.mp he
      rcases (mem e).mp e1 with h | rfl
      · have a := inn e h e2
        have b : strW e.1 c' = false := e3 (c', v) ((mem _).mpr (.inr rfl)) hm
        rw [a] at b
        cases b
      · exact dv
  constructor
  · intro hk
    obtain ⟨d, hd, rfl⟩ := List.mem_map.mp hk
    obtain ⟨d1, d2, _⟩ := mem_decs.mp hd
    obtain ⟨e, he, _⟩ := above upo ((mem d).mpr (.inl d1)) d2
    exact List.mem_map.mpr ⟨e, he, (low d hd e he).symm⟩
  · intro hk
    obtain ⟨e, he, rfl⟩ := List.mem_map.mp hk
    obtain ⟨e1, e2, _⟩ := mem_decs.mp he
    have some' : ∃ r ∈ rs, mat c r = true := by
      rcases (mem e).mp e1 with h | rfl
      · exact ⟨e, h, e2⟩
      · obtain ⟨d, hd, _⟩ := List.mem_map.mp ((hv v).mpr rfl)
        obtain ⟨d1, d2, _⟩ := mem_decs.mp hd
        exact ⟨d, d1, inC_trans (show inC d.1 c' = true from d2) (show inC c' c = true from e2)⟩
    obtain ⟨r, hr, hm⟩ := some'
    obtain ⟨d, hd, _⟩ := above upr hr hm
    exact List.mem_map.mpr ⟨d, hd, low d hd e he⟩
/-- a condition that no rule names changes nothing -/
theorem decs_ext {rs : List Rule} {c : Case} {x : Int × Int} (no : ∀ r ∈ rs, ∀ y ∈ r.1, y ≠ x) : decs rs (c ++ [x]) = decs rs c := by
  have e : ∀ r ∈ rs, mat (c ++ [x]) r = mat c r := fun r hr => by
    rw [mat_in, mat_in, Bool.eq_iff_iff, inC_iff, inC_iff]
    constructor
    · intro h y hy
      rcases List.mem_append.mp (h y hy) with z | z
      · exact z
      · exact absurd (List.mem_singleton.mp z) (no r hr y hy)
    · intro h y hy
      exact List.mem_append_left _ (h y hy)
  unfold decs
  rw [List.filter_congr e]
end DL
/-! DGb: len(o) by an own __len__. -/
namespace DL
open PySem PySem.Spec PyProof.Rows L2 Enc TL PySem.Calls
section
variable {X : Cx} {W : WX} {cs : List Addr} {k : Nat} {sp : DSp} {g : Addr} {e : Expr} {pos p : Pos}
def wLenO (cs : List Addr) (sp : DSp) (wr : WA) : DL.WE := fun sl M Q E => wr sl M (fun ds M1 => ∃ d C ks es, ds = [d] ∧ der M1 d = .ins C ks es ∧ C ∈ cs ∧ sp [d] M1 (fun r M2 => ∃ n : Nat, r = .int n ∧ n < 100000 ∧ Q r M2) E) E
theorem d_lenO {wr : WA} (bA : Bare bm X.A) (hr : Room (k + 1) X.A) (tk : Takes X W) (hc : ∀ C ∈ cs, OwnM X.K C "__len__" g) (F : FD bm X k g sp) (hg : Gl X "len") (hm : X.mg "len" = none) (ha : PA X [e] (lowA W wr))
    (hs : starEach [e] X.env = (false, eval e X.env) :: starEach [] X.env := by rfl) : PE X (.Call (.Name "len" p) [e] [] pos) (low W (wLenO cs sp wr)) := by
  refine ⟨fun pins s σ H Q I h => ?_⟩
  have L : lowA W wr σ H fun vs H1 => ∃ a C dx fs, vs = [.ref a] ∧ H1 a = some (.ins C dx fs) ∧ C ∈ cs ∧ liftV sp [.ref a] H1 (fun v H2 => ∃ n : Nat, v = .int n ∧ n < 100000 ∧ Q v H2) (fun c d H => W c d σ H) := by
    obtain ⟨sl, Hf, M, Qd, Xd, rl, w, k, kx⟩ := h
    refine ⟨sl, Hf, M, _, Xd, rl, w, fun ds Hf1 M1 vs H1 s1 r1 w1 => ?_, kx⟩
    obtain ⟨d, C, ks, es, rfl, hd, hC, q⟩ := w1
    cases r1 with
    | cons r1 rr =>
      cases rr
      have rt := RepT.of s1.wd r1
      rw [hd] at rt
      obtain ⟨a, dx, fs, rfl, ha, _, _⟩ := rt.ins s1.wd.le
      refine ⟨a, C, dx, fs, rfl, ha, hC, [d], Hf1, M1, _, _, .cons r1 .nil, s1.wd, q, fun d Hf2 M2 v H2 s2 r2 z => ?_, fun c Hf2 M2 H2 s2 z => kx c Hf2 M2 H2 (s1.trans s2) z⟩
      obtain ⟨n, rfl, hn, z⟩ := z
      cases r2
      exact ⟨n, rfl, hn, k _ Hf2 M2 _ H2 (s1.trans s2) (.int _) z⟩
  refine wpAny_Call_Name_kw (ld_blt (u := .builtin "len") I hg hm (by kernel_rfl) ?_ (by decide) (by decide))
  refine PyProof.Rows.callWith_builtin1 (thn (ha.run pos pins s σ H _ I L) fun us s1 ⟨vs, H1, I1, r1, q1⟩ => ?_) hs rfl
  obtain ⟨a, C, dx, fs, rfl, h1, hC, q⟩ := q1
  obtain ⟨u, rfl, ru⟩ := vals1 r1
  obtain rfl : u = Value.ref a := ru
  obtain ⟨mA, J, _⟩ := ins_get I1.hok h1
  obtain ⟨od, J, _⟩ := J.look
  obtain ⟨m, hF⟩ := I1.fr
  have c := hc C hC
  refine PySem.W.len_K hF I1.ok.mod.kin J c.at_ c.fn ?_
  refine wpAny_mono (run_G1 (us := [.ref a]) (vs := [.ref a]) F bA hr (passAt tk σ) I1 (.cons rfl .nil) q) (fun v s' z => ?_) fun _ _ z => z
  obtain ⟨x, H', I', rx, n, rfl, hn, q⟩ := z
  obtain ⟨t, rfl⟩ := rx
  exact ⟨⟨by omega, by omega⟩, ⟨.int n, H', I'.tok _, ⟨_, rfl⟩, q⟩⟩
end
end DL
/-! DPb, plain: the cases that matter; what lies within a case, put together; the closest rules of an ordered list. -/
namespace DL
open PySem PySem.Spec PyProof.Rows L2 Enc TL
def topC (cs : List Case) (c : Case) : Case := c.filter fun z => cs.any fun y => inC y c && decide (z ∈ y)
theorem mem_topC {cs : List Case} {c : Case} {z : Int × Int} : z ∈ topC cs c ↔ z ∈ c ∧ ∃ y ∈ cs, inC y c = true ∧ z ∈ y := by
  unfold topC
  rw [List.mem_filter, List.any_eq_true]
  simp only [Bool.and_eq_true, decide_eq_true_eq]
theorem ok_filter {c : Case} (h : okCase c = true) (p : Int × Int → Bool) : okCase (c.filter p) = true := by
  obtain ⟨h1, h2⟩ := okCase_iff.mp h
  exact okCase_iff.mpr ⟨fun x hx => h1 x (List.mem_filter.mp hx).1, List.Pairwise.sublist List.filter_sublist h2⟩
theorem top_ok {cs : List Case} {c : Case} (h : okCase c = true) : okCase (topC cs c) = true := ok_filter h _
theorem top_sub {cs : List Case} {c : Case} : inC (topC cs c) c = true := inC_iff.mpr fun z hz => (mem_topC.mp hz).1
theorem top_in {cs : List Case} {c y : Case} (hy : y ∈ cs) : inC y (topC cs c) = inC y c := by
  rw [Bool.eq_iff_iff]
  constructor
  · intro h
    exact inC_trans h top_sub
  · intro h
    exact inC_iff.mpr fun z hz => mem_topC.mpr ⟨inC_iff.mp h z hz, y, hy, h, hz⟩
/-- the cases that matter: the conditions that lie within, put together -/
theorem mem_aL {cs : List Case} (ok : ∀ x ∈ cs, okCase x = true) (c : Case) : c ∈ aL cs ↔ okCase c = true ∧ ∀ z ∈ c, ∃ x ∈ cs, inC x c = true ∧ z ∈ x := by
  have key : ∀ (n : Nat) (l : List Case), l.length = n → (∀ x ∈ l, okCase x = true) → ∀ c, c ∈ aL l ↔ okCase c = true ∧ ∀ z ∈ c, ∃ x ∈ l, inC x c = true ∧ z ∈ x := by
    intro n
    induction n with
    | zero =>
      intro l hl _ c
      rw [List.length_eq_zero_iff.mp hl]
      show c ∈ [[]] ↔ _
      rw [List.mem_singleton]
      constructor
      · rintro rfl
        exact ⟨rfl, fun z hz => by cases hz⟩
      · rintro ⟨_, h⟩
        cases c with
        | nil => rfl
        | cons z c =>
          obtain ⟨x, hx, _⟩ := h z List.mem_cons_self
          cases hx
    | succ n ih =>
      intro l hl ok c
      have hne : l ≠ [] := by
        rintro rfl
        cases hl
      obtain ⟨l1, x, rfl⟩ : ∃ l1 x, l = l1 ++ [x] := ⟨l.dropLast, l.getLast hne, (List.dropLast_concat_getLast hne).symm⟩
      have ok1 : ∀ y ∈ l1, okCase y = true := fun y hy => ok y (List.mem_append_left _ hy)
      have okx : okCase x = true := ok x (by simp)
      have IH := ih l1 (by simpa using hl) ok1
      rw [aL_snoc, mem_aStep]
      constructor
      · rintro (h | ⟨o, ho, hm, rfl⟩)
        · obtain ⟨h1, h2⟩ := (IH c).mp h
          exact ⟨h1, fun z hz => by
            obtain ⟨y, hy, q⟩ := h2 z hz
            exact ⟨y, List.mem_append_left _ hy, q⟩⟩
        · obtain ⟨h1, h2⟩ := (IH o).mp ho
          refine ⟨tog_ok h1 okx hm, fun z hz => ?_⟩
          rcases mem_tog.mp hz with hz | hz
          · obtain ⟨y, hy, q1, q2⟩ := h2 z hz
            exact ⟨y, List.mem_append_left _ hy, inC_iff.mpr fun w hw => mem_tog.mpr (.inl (inC_iff.mp q1 w hw)), q2⟩
          · exact ⟨x, by simp, inC_iff.mpr fun w hw => mem_tog.mpr (.inr hw), hz⟩
      · rintro ⟨h1, h2⟩
        have ho : topC l1 c ∈ aL l1 := (IH _).mpr ⟨top_ok h1, fun z hz => by
          obtain ⟨_, y, hy, q1, q2⟩ := mem_topC.mp hz
          exact ⟨y, hy, by rw [top_in hy]; exact q1, q2⟩⟩
        by_cases hx : inC x c = true
        · refine .inr ⟨topC l1 c, ho, ?_, ?_⟩
          · refine (meet_iff (up_of (top_ok h1))).mpr fun w hw y hy e => ?_
            have := up_one (up_of h1) (mem_topC.mp hy).1 (inC_iff.mp hx w hw) e
            rw [this]
          · refine (tog_is (up_of h1) fun z => ?_).symm
            constructor
            · rintro (h | h)
              · exact (mem_topC.mp h).1
              · exact inC_iff.mp hx z h
            · intro hz
              obtain ⟨y, hy, q1, q2⟩ := h2 z hz
              rcases List.mem_append.mp hy with hy | hy
              · exact .inl (mem_topC.mpr ⟨hz, y, hy, q1, q2⟩)
              · rw [List.mem_singleton.mp hy] at q2
                exact .inr q2
        · refine .inl ((IH c).mpr ⟨h1, fun z hz => ?_⟩)
          obtain ⟨y, hy, q1, q2⟩ := h2 z hz
          rcases List.mem_append.mp hy with hy | hy
          · exact ⟨y, hy, q1, q2⟩
          · rw [List.mem_singleton.mp hy] at q1
            exact absurd q1 hx
  exact key _ cs rfl ok c
theorem top_mem {cs : List Case} (ok : ∀ x ∈ cs, okCase x = true) {c : Case} (hc : okCase c = true) : topC cs c ∈ aL cs :=
  (mem_aL ok _).mpr ⟨top_ok hc, fun z hz => by
    obtain ⟨_, y, hy, q1, q2⟩ := mem_topC.mp hz
    exact ⟨y, hy, by rw [top_in hy]; exact q1, q2⟩⟩
theorem top_most {cs : List Case} (ok : ∀ x ∈ cs, okCase x = true) {c m : Case} (hm : m ∈ aL cs) (h : inC m c = true) : inC m (topC cs c) = true := by
  obtain ⟨_, h2⟩ := (mem_aL ok m).mp hm
  refine inC_iff.mpr fun z hz => ?_
  obtain ⟨x, hx, q1, q2⟩ := h2 z hz
  exact mem_topC.mpr ⟨inC_iff.mp h z hz, x, hx, inC_trans q1 h, q2⟩
abbrev conds (rs : List Rule) : List Case := rs.map (·.1)
theorem conds_ok {rs : List Rule} (ok : ∀ r ∈ rs, okRule r = true) : ∀ c ∈ conds rs, okCase c = true := fun c hc => by
  obtain ⟨r, hr, rfl⟩ := List.mem_map.mp hc
  exact (rule_ok.mp (ok r hr)).1
theorem mat_top {rs : List Rule} {r : Rule} (hr : r ∈ rs) (c : Case) : mat (topC (conds rs) c) r = mat c r := top_in (List.mem_map.mpr ⟨r, hr, rfl⟩)
theorem decs_top (rs : List Rule) (c : Case) : decs rs (topC (conds rs) c) = decs rs c := by
  have e : rs.filter (mat (topC (conds rs) c)) = rs.filter (mat c) := List.filter_congr fun r hr => mat_top hr c
  unfold decs
  rw [e]
/-- what the first matching rule says -/
def fo (rs : List Rule) (c : Case) : Option Int := (rs.find? fun r => mat c r).map (·.2)
theorem fo_top (rs : List Rule) (c : Case) : fo rs (topC (conds rs) c) = fo rs c := by
  have key : ∀ l : List Rule, (∀ r ∈ l, mat (topC (conds rs) c) r = mat c r) → (l.find? fun r => mat (topC (conds rs) c) r) = l.find? fun r => mat c r := by
    intro l
    induction l with
    | nil => intro _; rfl
    | cons r l ih =>
      intro h
      rw [List.find?_cons, List.find?_cons, h r List.mem_cons_self, ih fun z hz => h z (List.mem_cons_of_mem _ hz)]
  unfold fo
  rw [key rs fun r hr => mat_top hr c]
theorem fo_some {rs : List Rule} {c : Case} {r : Rule} (hr : r ∈ rs) (hm : mat c r = true) : ∃ v, fo rs c = some v := by
  unfold fo
  cases z : rs.find? fun r => mat c r with
  | some a => exact ⟨_, rfl⟩
  | none => exact absurd hm (List.find?_eq_none.mp z r hr)
theorem fo_mem {rs : List Rule} {c : Case} {v : Int} (h : fo rs c = some v) : ∃ r ∈ rs, mat c r = true ∧ r.2 = v := by
  unfold fo at h
  cases z : rs.find? fun r => mat c r with
  | none => rw [z] at h; cases h
  | some a =>
    rw [z] at h
    exact ⟨a, List.mem_of_find?_eq_some z, List.find?_some z, Option.some.inj h⟩
def clF (rs : List Rule) (cs : List Case) : List Rule := cs.filterMap fun c => (fo rs c).map fun v => (c, v)
theorem mem_clF {rs : List Rule} {cs : List Case} {r : Rule} : r ∈ clF rs cs ↔ r.1 ∈ cs ∧ fo rs r.1 = some r.2 := by
  unfold clF
  rw [List.mem_filterMap]
  constructor
  · rintro ⟨c, hc, e⟩
    cases z : fo rs c with
    | none => rw [z] at e; cases e
    | some v =>
      rw [z] at e
      cases e
      exact ⟨hc, z⟩
  · rintro ⟨h1, h2⟩
    exact ⟨r.1, h1, by rw [h2]; rfl⟩
theorem clF_nodup {rs : List Rule} {cs : List Case} (nd : cs.Nodup) : (clF rs cs).Nodup := by
  unfold clF
  refine List.Pairwise.filterMap _ (R := fun a b => a ≠ b) ?_ nd
  intro a b ne x hx y hy e
  cases za : fo rs a with
  | none => rw [za] at hx; cases hx
  | some v =>
    cases zb : fo rs b with
    | none => rw [zb] at hy; cases hy
    | some w =>
      rw [za] at hx
      rw [zb] at hy
      cases hx
      cases hy
      exact ne (congrArg Prod.fst e)
theorem clF_len (rs : List Rule) (cs : List Case) : (clF rs cs).length ≤ cs.length := List.length_filterMap_le _ _
section
variable {rs : List Rule} {cs : List Case} (ok : ∀ r ∈ rs, okRule r = true) (mem : ∀ c, c ∈ cs ↔ c ∈ aL (conds rs))
include ok mem
theorem clF_ok : ∀ r ∈ clF rs cs, okRule r = true := fun r hr => by
  obtain ⟨h1, h2⟩ := mem_clF.mp hr
  obtain ⟨z, hz, _, e⟩ := fo_mem h2
  exact rule_ok.mpr ⟨aL_ok (conds_ok ok) _ ((mem _).mp h1), by rw [← e]; exact (rule_ok.mp (ok z hz)).2⟩
theorem clF_res {c : Case} (hc : okCase c = true) (k : Int) : k ∈ (decs (clF rs cs) c).map (·.2) ↔ fo rs c = some k := by
  have okc := conds_ok ok
  have hM : topC (conds rs) c ∈ cs := (mem _).mpr (top_mem okc hc)
  have most : ∀ o ∈ clF rs cs, mat c o = true → inC o.1 (topC (conds rs) c) = true := fun o ho h => top_most okc ((mem _).mp (mem_clF.mp ho).1) h
  have upc : ∀ o ∈ clF rs cs, Up o.1 := fun o ho => up_of (rule_ok.mp (clF_ok ok mem o ho)).1
  constructor
  · intro h
    obtain ⟨d, hd, rfl⟩ := List.mem_map.mp h
    obtain ⟨d1, d2, d3⟩ := mem_decs.mp hd
    obtain ⟨e1, e2⟩ := mem_clF.mp d1
    obtain ⟨r, hr, hm, _⟩ := fo_mem e2
    obtain ⟨v, hv⟩ := fo_some (c := topC (conds rs) c) hr (by rw [mat_top hr]; exact inC_trans hm d2)
    have hin : (topC (conds rs) c, v) ∈ clF rs cs := mem_clF.mpr ⟨hM, hv⟩
    have ed : d.1 = topC (conds rs) c := by
      apply Classical.byContradiction
      intro ne
      have := d3 _ hin top_sub
      rw [in_strict (upc d d1) (up_of (top_ok hc)) (most d d1 d2) ne] at this
      cases this
    rw [ed, fo_top] at e2
    exact e2
  · intro h
    have hin : (topC (conds rs) c, k) ∈ clF rs cs := mem_clF.mpr ⟨hM, by rw [fo_top]; exact h⟩
    refine List.mem_map.mpr ⟨_, mem_decs.mpr ⟨hin, top_sub, fun o ho hm => ?_⟩, rfl⟩
    cases z : strW (topC (conds rs) c) o.1 with
    | false => rfl
    | true =>
      have h1 := (str_in z).2
      have h2 := sub_len (up_nodup (upc o ho)) (most o ho hm)
      omega
theorem clF_one : OneRes (clF rs cs) := fun c hc r hr s hs => by
  have h1 := (clF_res ok mem hc r.2).mp (List.mem_map.mpr ⟨r, hr, rfl⟩)
  have h2 := (clF_res ok mem hc s.2).mp (List.mem_map.mpr ⟨s, hs, rfl⟩)
  rw [h1] at h2
  exact Option.some.inj h2
end
/-- with more conditions first: what the first says is what all that decide say -/
theorem fo_order {rs o : List Rule} (pm : o.Perm rs) (one : OneRes rs) (hp : o.Pairwise fun x y => y.1.length ≤ x.1.length) {c : Case} (hc : okCase c = true) (k : Int) : fo o c = some k ↔ k ∈ (decs rs c).map (·.2) := by
  have first : ∀ v, fo o c = some v → v ∈ (decs rs c).map (·.2) := fun v h => by
    unfold fo at h
    cases z : o.find? fun r => mat c r with
    | none => rw [z] at h; cases h
    | some a =>
      rw [z] at h
      have h : a.2 = v := Option.some.inj h
      obtain ⟨m, l1, l2, e, no⟩ := List.find?_eq_some_iff_append.mp z
      refine List.mem_map.mpr ⟨a, mem_decs.mpr ⟨pm.mem_iff.mp (by rw [e]; simp), m, fun x hx hm => ?_⟩, h⟩
      have hx := pm.mem_iff.mpr hx
      rw [e] at hx
      rcases List.mem_append.mp hx with hx | hx
      · have := no x hx
        rw [hm] at this
        cases this
      · rcases List.mem_cons.mp hx with rfl | hx
        · cases z : strW x.1 x.1 with
          | false => rfl
          | true => have := (str_in z).2; omega
        · rw [e] at hp
          have := (List.pairwise_cons.mp (List.pairwise_append.mp hp).2.1).1 x hx
          cases z : strW a.1 x.1 with
          | false => rfl
          | true => have := (str_in z).2; omega
  constructor
  · exact first k
  · intro h
    obtain ⟨d, hd, e⟩ := List.mem_map.mp h
    obtain ⟨d1, d2, _⟩ := mem_decs.mp hd
    obtain ⟨v, hv⟩ := fo_some (pm.mem_iff.mpr d1) d2
    obtain ⟨d', hd', e'⟩ := List.mem_map.mp (first v hv)
    rw [hv, ← e, ← e', one c hc d hd d' hd']
theorem bySize_ex (l : List Rule) : ∃ o : List Rule, o.Perm l ∧ BySize o := ⟨_, List.mergeSort_perm l _, merge_ascK szK l⟩
theorem small_part (l : List Rule) : (smallGo [] l).Sublist l := by
  have key : ∀ (l kept a : List Rule), kept.Sublist a → (smallGo kept l).Sublist (a ++ l) := by
    intro l
    induction l with
    | nil => intro kept a h; rw [List.append_nil]; exact h
    | cons x l ih =>
      intro kept a h
      have h2 : (keepR kept x).Sublist (a ++ [x]) := by
        unfold keepR
        split
        · exact h.trans (List.sublist_append_left _ _)
        · exact h.append (.refl _)
      have := ih (keepR kept x) (a ++ [x]) h2
      rw [List.append_assoc] at this
      exact this
  exact key l [] [] (.refl _)
/-- lists with the same results have one smallest list -/
theorem small_same {rs os o1 o2 : List Rule} (ok1 : ∀ r ∈ rs, okRule r = true) (ok2 : ∀ r ∈ os, okRule r = true) (one1 : OneRes rs) (one2 : OneRes os) (n1 : rs.Nodup) (n2 : os.Nodup) (p1 : o1.Perm rs) (s1 : BySize o1) (p2 : o2.Perm os) (s2 : BySize o2)
    (h : ∀ c, okCase c = true → ∀ k, k ∈ (decs rs c).map (·.2) ↔ k ∈ (decs os c).map (·.2)) : smallGo [] o1 = smallGo [] o2 := by
  have m1 := p1.nodup_iff.mpr n1
  have m2 := p2.nodup_iff.mpr n2
  have K1 := small_kept p1 s1 m1
  have K2 := small_kept p2 s2 m2
  have ms : ∀ r, r ∈ smallGo [] o1 ↔ r ∈ smallGo [] o2 := kept_uniq ok1 ok2 one1 one2 K1 K2 fun c hc => h c (by
    rcases hc with ⟨r, hr, rfl⟩ | ⟨r, hr, rfl⟩
    · exact (rule_ok.mp (ok1 r (K1.sub r hr))).1
    · exact (rule_ok.mp (ok2 r (K2.sub r hr))).1)
  have d1 := m1.sublist (small_part o1)
  have d2 := m2.sublist (small_part o2)
  exact bySize_uniq ((List.perm_ext_iff_of_nodup d1 d2).mpr ms) (List.Pairwise.sublist (small_part o1) s1) (List.Pairwise.sublist (small_part o2) s2)
/-- few cases lie within one of at most five conditions -/
theorem within_few : ∀ (c : Case) (l : List Case), Up c → l.Nodup → (∀ x ∈ l, Up x ∧ inC x c = true) → l.length ≤ 2 ^ c.length := by
  intro c
  induction c with
  | nil =>
    intro l _ nd h
    have e : ∀ x ∈ l, x = [] := fun x hx => by
      cases x with
      | nil => rfl
      | cons a x => exact absurd (inC_iff.mp (h _ hx).2 a List.mem_cons_self) List.not_mem_nil
    cases l with
    | nil => simp
    | cons a l =>
      cases l with
      | nil => simp
      | cons b l =>
        rw [e a (by simp), e b (by simp)] at nd
        simp at nd
  | cons a c ih =>
    intro l up nd h
    obtain ⟨u1, u2⟩ := List.pairwise_cons.mp up
    have h1 : (l.filter fun x => !decide (a ∈ x)).length ≤ 2 ^ c.length := ih _ u2 (nd.sublist List.filter_sublist) fun x hx => by
      obtain ⟨hx1, hx2⟩ := List.mem_filter.mp hx
      have hx2 : a ∉ x := by simpa using hx2
      obtain ⟨p1, p2⟩ := h x hx1
      refine ⟨p1, inC_iff.mpr fun z hz => ?_⟩
      rcases List.mem_cons.mp (inC_iff.mp p2 z hz) with e | hz2
      · rw [e] at hz; exact absurd hz hx2
      · exact hz2
    have shape : ∀ x ∈ l, a ∈ x → x = a :: x.tail ∧ Up x.tail ∧ inC x.tail c = true := fun x hx ha => by
      obtain ⟨p1, p2⟩ := h x hx
      cases x with
      | nil => cases ha
      | cons b x =>
        obtain ⟨q1, q2⟩ := List.pairwise_cons.mp p1
        have eb : b = a := by
          rcases List.mem_cons.mp (inC_iff.mp p2 b List.mem_cons_self) with e | hb
          · exact e
          · rcases List.mem_cons.mp ha with e | ha
            · exact e.symm
            · have := q1 a ha
              have := u1 b hb
              omega
        subst eb
        refine ⟨rfl, q2, inC_iff.mpr fun z hz => ?_⟩
        rcases List.mem_cons.mp (inC_iff.mp p2 z (List.mem_cons_of_mem _ hz)) with e | hz2
        · have := q1 z hz
          rw [e] at this
          omega
        · exact hz2
    have h2 : ((l.filter fun x => decide (a ∈ x)).map List.tail).length ≤ 2 ^ c.length := by
      refine ih _ u2 ?_ fun x hx => ?_
      · refine List.pairwise_map.mpr ((nd.sublist List.filter_sublist).imp_of_mem fun {x y} hx hy ne e => ne ?_)
        obtain ⟨x1, x2⟩ := List.mem_filter.mp hx
        obtain ⟨y1, y2⟩ := List.mem_filter.mp hy
        rw [(shape x x1 (of_decide_eq_true x2)).1, (shape y y1 (of_decide_eq_true y2)).1, e]
      · obtain ⟨y, hy, rfl⟩ := List.mem_map.mp hx
        obtain ⟨y1, y2⟩ := List.mem_filter.mp hy
        exact (shape y y1 (of_decide_eq_true y2)).2
    rw [List.length_map] at h2
    have h3 : l.length = (l.filter fun x => decide (a ∈ x)).length + (l.filter fun x => !decide (a ∈ x)).length := by
      rw [← List.length_append]
      exact (List.filter_append_perm (fun x => decide (a ∈ x)) l).length_eq.symm
    rw [List.length_cons, Nat.pow_succ]
    omega
end DL
/-! DPc, plain: the cases that matter, found among all cases of what rules name. -/
namespace DL
open PySem PySem.Spec PyProof.Rows L2 Enc TL
theorem evGo_nodup {nm : List (Int × Int)} (nd : nm.Nodup) {a : Int} : ∀ {cs : List Case}, cs.Nodup → (∀ c ∈ cs, ∀ x ∈ c, x.1 < a) → (evGo nm a cs).Nodup
  | [], _, _ => .nil
  | c :: cs, h, lt => by
    obtain ⟨h1, h2⟩ := List.nodup_cons.mp h
    have ih := evGo_nodup nd h2 fun d hd => lt d (List.mem_cons_of_mem _ hd)
    have ltc := lt c List.mem_cons_self
    unfold evGo
    refine List.nodup_append.mpr ⟨List.nodup_cons.mpr ⟨fun hm => ?_, ?_⟩, ih, fun p hp q hq e => ?_⟩
    · obtain ⟨x, hx, e⟩ := List.mem_map.mp hm
      have := congrArg List.length e
      simp at this
    · refine List.pairwise_map.mpr ((nd.filter _).imp fun {x y} ne e => ne ?_)
      have := List.append_cancel_left e
      exact (List.cons.inj this).1
    · subst e
      obtain ⟨d, hd, hd2⟩ := mem_evGo.mp hq
      have ne : c ≠ d := fun e => h1 (by rw [e]; exact hd)
      have ltd := lt d (List.mem_cons_of_mem _ hd)
      have last : ∀ {u v : Case} {x y : Int × Int}, u ++ [x] = v ++ [y] → u = v := fun {u v x y} e => by
        have := congrArg List.dropLast e
        simpa using this
      rcases List.mem_cons.mp hp with rfl | hp
      · rcases hd2 with e | ⟨x, hx, hxa, e⟩
        · exact ne e
        · have := ltc x (by rw [e]; simp)
          omega
      · obtain ⟨x, hx, rfl⟩ := List.mem_map.mp hp
        rcases hd2 with e | ⟨y, hy, hya, e⟩
        · have := ltd x (by rw [← e]; simp)
          have := of_decide_eq_true (List.mem_filter.mp hx).2
          omega
        · exact ne (last e)
theorem ev_nodup {nm : List (Int × Int)} (nd : nm.Nodup) : ∀ k, (ev nm k).Nodup
  | 0 => by simp [ev]
  | k + 1 => evGo_nodup nd (ev_nodup nd k) fun c hc x hx => ((ev_sound hc).2 x hx).2.2
theorem every_nodup {rs : List Rule} (ok : ∀ r ∈ rs, okRule r = true) : (every rs).Nodup := ev_nodup (named_nodup .nil fun r hr => up_of (rule_ok.mp (ok r hr)).1) 5
theorem every_is {rs : List Rule} (ok : ∀ r ∈ rs, okRule r = true) {c : Case} (h : c ∈ every rs) : okCase c = true := by
  obtain ⟨h1, h2⟩ := ev_sound h
  refine okCase_iff.mpr ⟨fun x hx => ?_, h1⟩
  rcases mem_named.mp (h2 x hx).1 with z | ⟨r, hr, z⟩
  · cases z
  · exact (okCase_iff.mp (rule_ok.mp (ok r hr)).1).1 x z
theorem aL_every {rs : List Rule} (ok : ∀ r ∈ rs, okRule r = true) (c : Case) : c ∈ aL (conds rs) ↔ c ∈ every rs ∧ topC (conds rs) c = c := by
  have okm := conds_ok ok
  constructor
  · intro h
    obtain ⟨h1, h2⟩ := (mem_aL okm c).mp h
    refine ⟨ev_full (up_of h1) fun x hx => ?_, ?_⟩
    · obtain ⟨y, hy, _, q⟩ := h2 x hx
      obtain ⟨r, hr, rfl⟩ := List.mem_map.mp hy
      have := okC_iff.mp ((okCase_iff.mp h1).1 x hx)
      exact ⟨mem_named.mpr (.inr ⟨r, hr, q⟩), this.1.1, by push_cast; exact this.1.2⟩
    · unfold topC
      refine List.filter_eq_self.mpr fun z hz => ?_
      obtain ⟨y, hy, q1, q2⟩ := h2 z hz
      rw [List.any_eq_true]
      exact ⟨y, hy, by rw [q1, decide_eq_true q2]; rfl⟩
  · rintro ⟨h1, h2⟩
    have := top_mem okm (every_is ok h1)
    rw [h2] at this
    exact this
/-- all cases of few attributes and values are few -/
theorem every_few {rs : List Rule} {b : Nat} (ok : ∀ r ∈ rs, okRule r = true) (h : ∀ r ∈ rs, ∀ x ∈ r.1, x.2 < b) (hb : (b + 1) ^ 5 ≤ 1024) (k : Nat) (hk : k ≤ 5) : (ev (named [] rs) k).length ≤ 1024 := by
  have nd : (named [] rs).Nodup := named_nodup .nil fun r hr => up_of (rule_ok.mp (ok r hr)).1
  have h1 := ev_len (nm := named [] rs) (b := b) (fun a => by
    have := few_at nd (a := a) (b := (b : Int)) fun x hx => by
      rcases mem_named.mp hx with z | ⟨r, hr, z⟩
      · cases z
      · exact ⟨(okC_iff.mp ((okCase_iff.mp (rule_ok.mp (ok r hr)).1).1 x z)).2.1, h r hr x z⟩
    simpa using this) k
  have h2 : (b + 1) ^ k ≤ (b + 1) ^ 5 := Nat.pow_le_pow_right (by omega) hk
  omega
theorem cnt_split (nm : List (Int × Int)) (k : Nat) : (nm.filter fun x => decide (0 ≤ x.1 ∧ x.1 < ((k + 1 : Nat) : Int))).length = (nm.filter fun x => decide (0 ≤ x.1 ∧ x.1 < (k : Int))).length + (nm.filter fun x => decide (x.1 = (k : Int))).length := by
  induction nm with
  | nil => rfl
  | cons x nm ih =>
    simp only [List.filter_cons]
    by_cases h1 : 0 ≤ x.1 ∧ x.1 < (k : Int)
    · rw [if_pos (by simp; push_cast; omega), if_pos (by simpa using h1), if_neg (by simp; omega), List.length_cons, List.length_cons, ih]
      omega
    · by_cases h2 : x.1 = (k : Int)
      · rw [if_pos (by simp; push_cast; omega), if_neg (by simpa using h1), if_pos (by simpa using h2), List.length_cons, List.length_cons, ih]
        omega
      · rw [if_neg (by simp; push_cast; omega), if_neg (by simpa using h1), if_neg (by simpa using h2), ih]
theorem ev_two (nm : List (Int × Int)) : ∀ k : Nat, (ev nm k).length ≤ 2 ^ (nm.filter fun x => decide (0 ≤ x.1 ∧ x.1 < (k : Int))).length
  | 0 => Nat.one_le_two_pow
  | k + 1 => by
    have h1 := evGo_len (nm := nm) (a := (k : Int)) (Nat.le_refl _) (ev nm k)
    have ih := ev_two nm k
    rw [cnt_split, Nat.pow_add]
    have h2 : ∀ n : Nat, n + 1 ≤ 2 ^ n := fun n => Nat.lt_two_pow_self
    exact Nat.le_trans h1 (Nat.mul_le_mul ih (h2 _))
theorem every_few2 {rs : List Rule} (h : (named [] rs).length ≤ 10) (k : Nat) : (ev (named [] rs) k).length ≤ 1024 := by
  have h1 := ev_two (named [] rs) k
  have h2 := List.length_filter_le (fun x : Int × Int => decide (0 ≤ x.1 ∧ x.1 < (k : Int))) (named [] rs)
  have h3 : 2 ^ ((named [] rs).filter fun x => decide (0 ≤ x.1 ∧ x.1 < (k : Int))).length ≤ 2 ^ 10 := Nat.pow_le_pow_right (by decide) (by omega)
  omega
end DL
/-! DZ1: zip of a list and a tuple. -/
namespace DL
open PySem PySem.Spec PyProof.Rows L2
section
variable {prog : Program} {w : World} {A : Around} {E : Value → Shared → Prop} {s : Shared}
/-- one turn, both have an item -/
theorem zm_item {z ti to j1 j2 la lb : Addr} {n1 n2 : Nat} {us vs : Array Value} {u v a b : Value} {Q : Value → Shared → Prop} (ap : ZipApart z ti to j1 j2 la lb) (iz : IsZip s.heap z ti to .none) (pi : IsPair s.heap ti (.ref j1) (.ref j2)) (po : IsPair s.heap to a b)
    (i1 : s.heap.IsListIter j1 la n1) (i2 : s.heap.IsTupleIter j2 lb n2) (s1 : s.heap.IsList la us) (s2 : s.heap.IsTuple lb vs) (g1 : us[n1]? = some u) (g2 : vs[n2]? = some v)
    (go : ∀ h', IsZip h' z ti to (rawInt s.heap.objs.size) → IsPair h' to u v → h'.IsListIter j1 la (n1 + 1) → h'.IsTupleIter j2 lb (n2 + 1) → IsPair h' s.heap.objs.size u v → h'.objs.size = s.heap.objs.size + 1 → (∀ c o, c ≠ z → c ≠ to → c ≠ j1 → c ≠ j2 → s.heap.get? c = some o → h'.get? c = some o) → Q (.ref s.heap.objs.size) { s with heap := h' }) :
    wpAny (model prog w) A (Builtin.«zip.__next__» ⟨[.ref z], []⟩) (fun fin s' => ∃ v, fin = .done (.ret v) ∧ Q v s') E s := by
  show wpAny _ _ (field (.ref z) 2 >>= _) _ _ _; apply wpAny_bind; apply wpAny_field iz rfl (x := .bool false) rfl
  show wpAny _ _ (field (.ref z) 3 >>= _) _ _ _; apply wpAny_bind; apply wpAny_field iz rfl (x := .ref ti) rfl
  apply wpAny_bind; apply wpAny_seqItems pi rfl
  show wpAny _ _ (Builtin.SmallTypes.ownedTupleIsFree (.ref z) >>= _) _ _ _; apply wpAny_bind; unfold Builtin.SmallTypes.ownedTupleIsFree
  apply wpAny_bind; apply wpAny_field iz rfl (x := .none) rfl; apply wpAny_pure
  simp only [if_true]; apply wpAny_bind; apply wpAny_rule
  apply wpAny_bind; apply wpAny_field iz rfl (x := .ref to) rfl
  apply wpAny_bind; apply wpAny_setField_rec iz (by simp); intro k1 z1 e1
  replace z1 : IsZip k1 z ti to .ellipsis := z1
  apply wpAny_bind; simp only [List.zipIdx_cons, List.zipIdx_nil, List.forIn_cons, List.forIn_nil]
  apply wpAny_bind; apply wpAny_bind; apply wpAny_onRaise
  show wpAny _ _ (Builtin.SmallTypes.nextOf (.ref j1) >>= _) _ _ _; apply wpAny_bind
  apply wpAny_nextOf_list_item (i1.extBut e1.extBut ap.i1z) (s1.extBut e1.extBut ap.l1z) g1; intro k2 i1b e2; apply wpAny_pure
  have po2 : IsPair k2 to a b := e2.extBut _ _ ap.TOi1 (e1.extBut _ _ ap.TOz po)
  apply wpAny_bind; apply wpAny_seqItems po2 rfl; apply wpAny_bind; apply wpAny_updateSeq_pair po2; intro k3 po3 e3
  replace po3 : IsPair k3 to u b := po3
  apply wpAny_bind; apply wpAny_letGo; apply wpAny_pure
  apply wpAny_bind; apply wpAny_bind; apply wpAny_onRaise
  show wpAny _ _ (Builtin.SmallTypes.nextOf (.ref j2) >>= _) _ _ _; apply wpAny_bind
  apply RZ.nextOf_tuple_item (((i2.extBut e1.extBut ap.i2z).extBut e2.extBut ap.i12.symm).extBut e3.extBut ap.TOi2.symm) (((s2.extBut e1.extBut ap.l2z).extBut e2.extBut ap.l2i1).extBut e3.extBut ap.l2TO) g2; intro k4 i2b e4; apply wpAny_pure
  have po4 : IsPair k4 to u b := e4.extBut _ _ ap.TOi2 po3
  apply wpAny_bind; apply wpAny_seqItems po4 rfl; apply wpAny_bind; apply wpAny_updateSeq_pair po4; intro k5 po5 e5
  replace po5 : IsPair k5 to u v := po5
  apply wpAny_bind; apply wpAny_letGo; apply wpAny_pure; apply wpAny_pure
  apply wpAny_bind; apply wpAny_seqItems po5 rfl; apply wpAny_bind; refine wpAny_newTuple ?_
  have sz : k5.objs.size = s.heap.objs.size := by rw [e5.1, e4.1, e3.1, e2.1, e1.1]
  have z5 : IsZip k5 z ti to .ellipsis := e5.extBut _ _ ap.TOz.symm (e4.extBut _ _ ap.i2z.symm (e3.extBut _ _ ap.TOz.symm (e2.extBut _ _ ap.i1z.symm z1)))
  have old5 : ∀ c o, c ≠ z → c ≠ to → c ≠ j1 → c ≠ j2 → s.heap.get? c = some o → k5.get? c = some o := fun c o d1 d2 d3 d4 q => e5.extBut _ _ d2 (e4.extBut _ _ d4 (e3.extBut _ _ d2 (e2.extBut _ _ d3 (e1.extBut _ _ d1 q))))
  have i15 : k5.IsListIter j1 la (n1 + 1) := ((i1b.extBut e3.extBut ap.TOi1.symm).extBut e4.extBut ap.i12).extBut e5.extBut ap.TOi1.symm
  have i25 : k5.IsTupleIter j2 lb (n2 + 1) := i2b.extBut e5.extBut ap.TOi2.symm
  have zl : z < k5.objs.size := Heap.lt_size z5
  show wpAny _ _ (Builtin.SmallTypes.ownedTupleHandOut (.ref z) (.ref k5.objs.size) >>= _) _ _ _; apply wpAny_bind; unfold Builtin.SmallTypes.ownedTupleHandOut
  have z6 : IsZip (k5.push { cls := .type "tuple", data := .seq #[u, v] }) z ti to .ellipsis := Heap.get?_push_of_some _ z5
  apply wpAny_bind; apply wpAny_setField_rec z6 (by simp); intro k7 z7 e7
  replace z7 : IsZip k7 z ti to (rawInt k5.objs.size) := z7
  apply wpAny_setField_rec z7 (by simp); intro k8 z8 e8
  replace z8 : IsZip k8 z ti to (rawInt k5.objs.size) := z8
  have up : ∀ c o, c ≠ z → k5.get? c = some o → k8.get? c = some o := fun c o d1 q => e8.extBut _ _ d1 (e7.extBut _ _ d1 (Heap.get?_push_of_some _ q))
  have pr : IsPair k8 k5.objs.size u v := e8.extBut _ _ (Nat.ne_of_gt zl) (e7.extBut _ _ (Nat.ne_of_gt zl) (Heap.get?_push_size _ rfl))
  have sz8 : k8.objs.size = k5.objs.size + 1 := by rw [e8.1, e7.1, Heap.size_push]
  rw [sz] at z8 pr sz8
  refine wpAny_pure ⟨_, rfl, ?_⟩; show Q (.ref k5.objs.size) _; rw [sz]
  exact go k8 z8 (up _ _ ap.TOz po5) (i15.at fun o q => up _ o ap.i1z q) (i25.at fun o q => up _ o ap.i2z q) pr sz8 fun c o d1 d2 d3 d4 q => up c o d1 (old5 c o d1 d2 d3 d4 q)
/-- one turn, one has none -/
theorem zm_end {z ti to j1 j2 la lb : Addr} {n1 n2 : Nat} {us vs : Array Value} {a b : Value} {Q : Fin → Shared → Prop} (hh : A.handled = none) (ap : ZipApart z ti to j1 j2 la lb) (iz : IsZip s.heap z ti to .none) (pi : IsPair s.heap ti (.ref j1) (.ref j2)) (po : IsPair s.heap to a b)
    (i1 : s.heap.IsListIter j1 la n1) (i2 : s.heap.IsTupleIter j2 lb n2) (s1 : s.heap.IsList la us) (s2 : s.heap.IsTuple lb vs) (no : us[n1]? = none ∨ vs[n2]? = none)
    (go : ∀ h' e, (∀ c o, c ≠ z → c ≠ to → c ≠ j1 → c ≠ j2 → s.heap.get? c = some o → h'.get? c = some o) → (∃ o, h'.get? e = some o ∧ o.cls = .type "StopIteration") → E (.ref e) { s with heap := h' }) :
    wpAny (model prog w) A (Builtin.«zip.__next__» ⟨[.ref z], []⟩) Q E s := by
  show wpAny _ _ (field (.ref z) 2 >>= _) _ _ _; apply wpAny_bind; apply wpAny_field iz rfl (x := .bool false) rfl
  show wpAny _ _ (field (.ref z) 3 >>= _) _ _ _; apply wpAny_bind; apply wpAny_field iz rfl (x := .ref ti) rfl
  apply wpAny_bind; apply wpAny_seqItems pi rfl
  show wpAny _ _ (Builtin.SmallTypes.ownedTupleIsFree (.ref z) >>= _) _ _ _; apply wpAny_bind; unfold Builtin.SmallTypes.ownedTupleIsFree
  apply wpAny_bind; apply wpAny_field iz rfl (x := .none) rfl; apply wpAny_pure
  simp only [if_true]; apply wpAny_bind; apply wpAny_rule
  apply wpAny_bind; apply wpAny_field iz rfl (x := .ref to) rfl
  apply wpAny_bind; apply wpAny_setField_rec iz (by simp); intro k1 z1 e1
  replace z1 : IsZip k1 z ti to .ellipsis := z1
  apply wpAny_bind; simp only [List.zipIdx_cons, List.zipIdx_nil, List.forIn_cons, List.forIn_nil]
  apply wpAny_bind; apply wpAny_bind; apply wpAny_onRaise
  show wpAny _ _ (Builtin.SmallTypes.nextOf (.ref j1) >>= _) _ _ _
  cases gx : us[n1]? with
  | none =>
    apply wpAny_bind; apply wpAny_nextOf_list_end hh (i1.extBut e1.extBut ap.i1z) (s1.extBut e1.extBut ap.l1z) gx; rintro k2 e e2 ⟨oe, he, hce⟩
    have z2 : IsZip k2 z ti to .ellipsis := e2 _ _ ap.i1z.symm z1
    have ne : e ≠ z := fun q => by subst q; rw [z2] at he; cases he; simp at hce
    apply wpAny_setField_rec z2 (by simp); intro k3 _ e3
    exact go k3 e (fun c o d1 _ d3 _ q => e3.extBut _ _ d1 (e2 _ _ d3 (e1.extBut _ _ d1 q))) ⟨oe, e3.extBut _ _ ne he, hce⟩
  | some u =>
    have gy : vs[n2]? = none := no.resolve_left fun q => by rw [gx] at q; cases q
    apply wpAny_bind; apply wpAny_nextOf_list_item (i1.extBut e1.extBut ap.i1z) (s1.extBut e1.extBut ap.l1z) gx; intro k2 i1b e2; apply wpAny_pure
    have po2 : IsPair k2 to a b := e2.extBut _ _ ap.TOi1 (e1.extBut _ _ ap.TOz po)
    apply wpAny_bind; apply wpAny_seqItems po2 rfl; apply wpAny_bind; apply wpAny_updateSeq_pair po2; intro k3 po3 e3
    apply wpAny_bind; apply wpAny_letGo; apply wpAny_pure
    apply wpAny_bind; apply wpAny_bind; apply wpAny_onRaise
    show wpAny _ _ (Builtin.SmallTypes.nextOf (.ref j2) >>= _) _ _ _; apply wpAny_bind
    apply RZ.nextOf_tuple_end hh (((i2.extBut e1.extBut ap.i2z).extBut e2.extBut ap.i12.symm).extBut e3.extBut ap.TOi2.symm) (((s2.extBut e1.extBut ap.l2z).extBut e2.extBut ap.l2i1).extBut e3.extBut ap.l2TO) gy; rintro k4 e e4 ⟨oe, he, hce⟩
    have z4 : IsZip k4 z ti to .ellipsis := e4 _ _ ap.i2z.symm (e3.extBut _ _ ap.TOz.symm (e2.extBut _ _ ap.i1z.symm z1))
    have ne : e ≠ z := fun q => by subst q; rw [z4] at he; cases he; simp at hce
    apply wpAny_setField_rec z4 (by simp); intro k5 _ e5
    exact go k5 e (fun c o d1 d2 d3 d4 q => e5.extBut _ _ d1 (e4 _ _ d4 (e3.extBut _ _ d2 (e2.extBut _ _ d3 (e1.extBut _ _ d1 q))))) ⟨oe, e5.extBut _ _ ne he, hce⟩
theorem zm_next {z ti to j1 j2 la lb : Addr} {n1 n2 : Nat} {us vs : Array Value} {u v a b : Value} {Q : Option Value → Shared → Prop} (ap : ZipApart z ti to j1 j2 la lb) (iz : IsZip s.heap z ti to .none) (pi : IsPair s.heap ti (.ref j1) (.ref j2)) (po : IsPair s.heap to a b)
    (i1 : s.heap.IsListIter j1 la n1) (i2 : s.heap.IsTupleIter j2 lb n2) (s1 : s.heap.IsList la us) (s2 : s.heap.IsTuple lb vs) (g1 : us[n1]? = some u) (g2 : vs[n2]? = some v)
    (go : ∀ h', IsZip h' z ti to (rawInt s.heap.objs.size) → IsPair h' to u v → h'.IsListIter j1 la (n1 + 1) → h'.IsTupleIter j2 lb (n2 + 1) → IsPair h' s.heap.objs.size u v → h'.objs.size = s.heap.objs.size + 1 → (∀ c o, c ≠ z → c ≠ to → c ≠ j1 → c ≠ j2 → s.heap.get? c = some o → h'.get? c = some o) → Q (some (.ref s.heap.objs.size)) { s with heap := h' }) :
    wpAny (model prog w) A (pyNext (.ref z)) Q E s := by
  have ty : s.TypeIs (.ref z) "zip" := ⟨_, iz, rfl⟩
  unfold pyNext; apply wpAny_bind; apply wpAny_attempt
  exact wpAny_callSpecial?_slot (name := Str.ofString "__next__") ty F.slot_zip_next (wpAny_call_entry F.slot_zip_next ty F.entry_zip_next (zm_item ap iz pi po i1 i2 s1 s2 g1 g2 fun h' q1 q2 q3 q4 q5 q6 q7 => wpAny_pure (go h' q1 q2 q3 q4 q5 q6 q7)) (F.args_zip_next_1 _))
theorem zm_stop {z ti to j1 j2 la lb : Addr} {n1 n2 : Nat} {us vs : Array Value} {a b : Value} {Q : Option Value → Shared → Prop} (hh : A.handled = none) (ap : ZipApart z ti to j1 j2 la lb) (iz : IsZip s.heap z ti to .none) (pi : IsPair s.heap ti (.ref j1) (.ref j2)) (po : IsPair s.heap to a b)
    (i1 : s.heap.IsListIter j1 la n1) (i2 : s.heap.IsTupleIter j2 lb n2) (s1 : s.heap.IsList la us) (s2 : s.heap.IsTuple lb vs) (no : us[n1]? = none ∨ vs[n2]? = none)
    (go : ∀ h', (∀ c o, c ≠ z → c ≠ to → c ≠ j1 → c ≠ j2 → s.heap.get? c = some o → h'.get? c = some o) → Q none { s with heap := h' }) : wpAny (model prog w) A (pyNext (.ref z)) Q E s := by
  have ty : s.TypeIs (.ref z) "zip" := ⟨_, iz, rfl⟩
  unfold pyNext; apply wpAny_bind; apply wpAny_attempt
  apply wpAny_callSpecial?_slot (name := Str.ofString "__next__") ty F.slot_zip_next
  apply wpAny_call_entry F.slot_zip_next ty F.entry_zip_next (zm_end hh ap iz pi po i1 i2 s1 s2 no fun h' e q1 q2 => ?_) (F.args_zip_next_1 _)
  obtain ⟨ob, q3, q4⟩ := q2
  refine wpAny_bind (wpAny_isInstance (T := "StopIteration") (b := true) ⟨ob, q3, q4⟩ isSubtype_stop ?_)
  exact wpAny_pure (go _ q1)
end
def zmH1 (h : Heap) (la : Addr) : Heap := h.push { cls := .type "list_iterator", data := .fields #[.ref la, .int 0 0] }
def zmH2 (h : Heap) (la lb : Addr) : Heap := (zmH1 h la).push { cls := .type "tuple_iterator", data := .fields #[.ref lb, .int 0 0] }
def zmH3 (h : Heap) (la lb : Addr) : Heap := (zmH2 h la lb).push { cls := .type "tuple", data := .seq #[.ref h.objs.size, .ref (zmH1 h la).objs.size] }
def zmH4 (h : Heap) (la lb : Addr) : Heap := (zmH3 h la lb).push { cls := .type "tuple", data := .seq #[.none, .none] }
def zmH5 (h : Heap) (la lb : Addr) : Heap := (zmH4 h la lb).push { cls := .type "zip", data := .fields #[.none, .bool false, .bool false, .ref (zmH2 h la lb).objs.size, .ref (zmH3 h la lb).objs.size] }
theorem zm_new (la lb : Addr) (us vs : Array Value) : Meets (Builtin.«zip.__new__» ⟨[.type "zip", .ref la, .ref lb], []⟩) (fun _ R s => s.heap.IsList la us ∧ s.heap.IsTuple lb vs ∧ R (.ok (.ret (.ref (zmH4 s.heap la lb).objs.size))) { s with heap := zmH5 s.heap la lb }) :=
  .of_wp fun prog w A R s h => by
    obtain ⟨hp, g, d, tk, os⟩ := s
    obtain ⟨hl1, hl2, h⟩ := h
    have hsub := sub_zip
    have q1 : Heap.IsList (Shared.heap ⟨hp, g, d, tk, os⟩) la us := hl1
    have q2 : Heap.IsTuple (Shared.heap ⟨hp.push { cls := .type "list_iterator", data := .fields #[.ref la, .int 0 0] }, g, d, tk, os⟩) lb vs := Heap.IsTuple.push hl2 _
    wp_walk using wpAny_pyIter_list q1, wpAny_pyIter_tuple q2
    exact ⟨_, rfl, h⟩
theorem zm_call {prog : Program} {w : World} {A : Around} {E : Value → Shared → Prop} {s : Shared} {la lb : Addr} {us vs : Array Value} {Q : Value → Shared → Prop} (hl1 : s.heap.IsList la us) (hl2 : s.heap.IsTuple lb vs)
    (h : ∀ h', IsZip h' (s.heap.objs.size + 4) (s.heap.objs.size + 2) (s.heap.objs.size + 3) .none → IsPair h' (s.heap.objs.size + 2) (.ref s.heap.objs.size) (.ref (s.heap.objs.size + 1)) → IsPair h' (s.heap.objs.size + 3) .none .none → h'.IsListIter s.heap.objs.size la 0 → h'.IsTupleIter (s.heap.objs.size + 1) lb 0 → (∀ c o, s.heap.get? c = some o → h'.get? c = some o) → Q (.ref (s.heap.objs.size + 4)) { s with heap := h' }) :
    wpAny (model prog w) A (call (.type "zip") [.ref la, .ref lb]) Q E s := by
  refine callType_new F.called_zip (by decide) (F.typeCall_zip_2 _ _) (F.newCall_zip_2 _ _) (fun obj => F.args_object_init_3 obj _ _) F.entry_zip_new (zm_new la lb us vs) ⟨hl1, hl2, ?_⟩
  have n1 : (zmH1 s.heap la).objs.size = s.heap.objs.size + 1 := Heap.size_push ..
  have n2 : (zmH2 s.heap la lb).objs.size = s.heap.objs.size + 2 := by unfold zmH2; rw [Heap.size_push, n1]
  have n3 : (zmH3 s.heap la lb).objs.size = s.heap.objs.size + 3 := by unfold zmH3; rw [Heap.size_push, n2]
  have n4 : (zmH4 s.heap la lb).objs.size = s.heap.objs.size + 4 := by unfold zmH4; rw [Heap.size_push, n3]
  have o5 : (zmH5 s.heap la lb).get? (zmH4 s.heap la lb).objs.size = some _ := Heap.get?_push_size _ rfl
  have o4 : (zmH5 s.heap la lb).get? (zmH3 s.heap la lb).objs.size = some _ := Heap.get?_push_of_some _ (Heap.get?_push_size _ rfl)
  have o3 : (zmH5 s.heap la lb).get? (zmH2 s.heap la lb).objs.size = some _ := Heap.get?_push_of_some _ (Heap.get?_push_of_some _ (Heap.get?_push_size _ rfl))
  have o2 : (zmH5 s.heap la lb).get? (zmH1 s.heap la).objs.size = some _ := Heap.get?_push_of_some _ (Heap.get?_push_of_some _ (Heap.get?_push_of_some _ (Heap.get?_push_size _ rfl)))
  have o1 : (zmH5 s.heap la lb).get? s.heap.objs.size = some _ := Heap.get?_push_of_some _ (Heap.get?_push_of_some _ (Heap.get?_push_of_some _ (Heap.get?_push_of_some _ (Heap.get?_push_size _ rfl))))
  show _ ∧ _
  rw [n2, n3, n4] at o5; rw [n1, n2] at o3; rw [n3] at o4; rw [n1] at o2; rw [n4]
  exact ⟨⟨_, o5, rfl⟩, h _ o5 o3 o4 ⟨_, o1, rfl, rfl⟩ ⟨_, o2, rfl, rfl⟩ fun c o q => Heap.get?_push_of_some _ (Heap.get?_push_of_some _ (Heap.get?_push_of_some _ (Heap.get?_push_of_some _ (Heap.get?_push_of_some _ q))))⟩
/-- the list at a and the tuple at b, the items in new pairs -/
def Izm (K : PySem.W.Frag) (a b : Addr) : It :=
  ⟨fun i H => ∃ (xs ys : List V) (x y : V), SqL K H a xs ∧ Rd H b (.tup ys) ∧ xs[i]? = some x ∧ ys[i]? = some y,
   fun i H v H' => ∃ T x y, v = .ref T ∧ H T = none ∧ H' = upd H T (.tup [x, y]) ∧ (∀ xs, SqL K H a xs → xs[i]? = some x) ∧ ∀ ys, Rd H b (.tup ys) → ys[i]? = some y,
   fun i H => ∃ xs ys : List V, SqL K H a xs ∧ Rd H b (.tup ys) ∧ (xs.length ≤ i ∨ ys.length ≤ i)⟩
theorem turn_zm {P : Program} {w : World} {K : PySem.W.Frag} {elts : List Expr} {kk : Nat} {tpos : Pos} {a b z ti to j1 j2 : Addr} (ap : ZipApart z ti to j1 j2 a b) :
    Turn P w K (.Tuple elts kk tpos) (Izm K a b) [z, ti, to, j1, j2] z (fun i h => IsZip h z ti to .none ∧ IsPair h ti (.ref j1) (.ref j2) ∧ (∃ x y, IsPair h to x y) ∧ h.IsListIter j1 a i ∧ h.IsTupleIter j2 b i) where
  mem := by simp
  obj := fun i h st c hc => by
    obtain ⟨iz, pi, ⟨x, y, po⟩, ⟨p1, e1, _, d1⟩, ⟨p2, e2, _, d2⟩⟩ := st
    rcases (show c = z ∨ c = ti ∨ c = to ∨ c = j1 ∨ c = j2 by simpa using hc) with rfl | rfl | rfl | rfl | rfl
    · exact ⟨_, iz, fun v q => nomatch q⟩
    · exact ⟨_, pi, fun v q => nomatch q⟩
    · exact ⟨_, po, fun v q => nomatch q⟩
    · exact ⟨p1, e1, fun v q => by rw [d1] at q; cases q⟩
    · exact ⟨p2, e2, fun v q => by rw [d2] at q; cases q⟩
  keep := fun i h h' st k => by
    obtain ⟨iz, pi, ⟨x, y, po⟩, i1, i2⟩ := st
    exact ⟨k z (by simp) _ iz, k ti (by simp) _ pi, ⟨x, y, k to (by simp) _ po⟩, i1.at fun o q => k j1 (by simp) o q, i2.at fun o q => k j2 (by simp) o q⟩
  item := by
    rintro X rfl rfl rfl hc i pins s σ H E I hf ⟨iz, pi, ⟨x0, y0, po⟩, i1, i2⟩ ⟨xs, ys, x, y, hqx, hqy, hx, hy⟩
    obtain ⟨its, rv, p, _⟩ := I.list hqx
    obtain ⟨its2, rv2, p2, _⟩ := I.tuple (.inl hqy)
    obtain ⟨u, hu, ru⟩ := rv.get hx
    obtain ⟨u2, hu2, ru2⟩ := rv2.get hy
    have zl : z < s.heap.objs.size := Heap.lt_size iz
    refine zm_next ap iz pi po i1 i2 p.isList p2 (u := u) (v := u2) (by simpa using hu) (by simpa using hu2) fun h' z' po' i1' i2' hT hsz hk => ?_
    refine ⟨_, rfl, wpAny_letOwnedTupleGo_zip (s := { s with heap := h' }) z' fun h2 z2 sb => ?_⟩
    have hT2 : h2.get? s.heap.objs.size = some { cls := .type "tuple", data := .seq #[u, u2] } := (sb.2 _ (Nat.ne_of_gt zl)).trans hT
    have new : ObjOk X.prog X.w (upd H s.heap.objs.size (.tup [x, y])) h2 s.heap.objs.size (.tup [x, y]) := ⟨by show 2 ≤ sizeLine; decide, [u, u2], .cons ru (.cons ru2 .nil), ⟨_, hT2, rfl, _, rfl⟩⟩
    have I1 : Inv X pins σ (upd H s.heap.objs.size (.tup [x, y])) { s with heap := h2 } :=
      I.turnedNew (t' := s.toks) (ch := [z, ti, to, j1, j2]) (fun c o hb q => (sb.2 c (fun e => hb (by simp [e]))).trans (hk c o (fun e => hb (by simp [e])) (fun e => hb (by simp [e])) (fun e => hb (by simp [e])) (fun e => hb (by simp [e])) q)) hf (Nat.le_refl _) new
    refine ⟨.ref s.heap.objs.size, _, I1, rfl, ⟨_, x, y, rfl, I.hok.fresh (Nat.le_refl _), rfl, fun l hl => by rw [I.list_inj hl hqx]; exact hx, fun l hl => by rw [rd_inj hl hqy]; exact hy⟩, ⟨z2, ?_, ⟨u, u2, ?_⟩, ?_, ?_⟩, fun c hcm => ?_⟩
    · exact (sb.2 _ ap.TIz).trans (hk _ _ ap.TIz ap.TITO ap.TIi1 ap.TIi2 pi)
    · exact (sb.2 _ ap.TOz).trans po'
    · exact i1'.at fun o q => (sb.2 _ ap.i1z).trans q
    · exact i2'.at fun o q => (sb.2 _ ap.i2z).trans q
    · have lt : c < s.heap.objs.size := by
        rcases (show c = z ∨ c = ti ∨ c = to ∨ c = j1 ∨ c = j2 by simpa using hcm) with rfl | rfl | rfl | rfl | rfl
        · exact zl
        · exact Heap.lt_size pi
        · exact Heap.lt_size po
        · obtain ⟨_, e1, _⟩ := i1
          exact Heap.lt_size e1
        · obtain ⟨_, e2, _⟩ := i2
          exact Heap.lt_size e2
      rw [upd_ne (Nat.ne_of_lt lt)]
      exact (hf c hcm).1
  done := by
    rintro X rfl rfl rfl hc i pins s σ H E I hf ⟨iz, pi, ⟨x0, y0, po⟩, i1, i2⟩ ⟨xs, ys, hqx, hqy, hend⟩
    obtain ⟨its, rv, p, _⟩ := I.list hqx
    obtain ⟨its2, rv2, p2, _⟩ := I.tuple (.inl hqy)
    have n1 := rv.length
    have n2 := rv2.length
    have no : its.toArray[i]? = none ∨ its2.toArray[i]? = none := hend.imp (fun q => by simp; omega) (fun q => by simp; omega)
    exact zm_stop (I.ok.hd hc) ap iz pi po i1 i2 p.isList p2 no fun h' hk => ⟨rfl, I.turnedL (t' := s.toks) (ch := [z, ti, to, j1, j2]) (fun c o hb q => hk c o (fun e => hb (by simp [e])) (fun e => hb (by simp [e])) (fun e => hb (by simp [e])) (fun e => hb (by simp [e])) q) hf⟩
  self := fun A i s Q E st h => wpAny_pyIter_zip st.1 h
def tZm (K : PySem.W.Frag) (ta : TA) : TI := fun σ H R => ta σ H fun vs H1 => ∃ a b xs ys, vs = [.ref a, .ref b] ∧ SqL K H1 a xs ∧ Rd H1 b (.tup ys) ∧ R (Izm K a b) H1
theorem pi_zm {X : Cx} {e e2 : Expr} {ta : TA} {p pos tpos : Pos} {elts : List Expr} {kk : Nat} (hg : Gl X "zip") (hm : X.mg "zip" = none) (ha : PA X [e, e2] ta)
    (hs : starEach [e, e2] X.env = (false, eval e X.env) :: starEach [e2] X.env := by rfl) (hpl : (backTo pos (starEach [e2] X.env)).any (·.1) = false := by rfl) : PI X (.Tuple elts kk tpos) (.Call (.Name "zip" p) [e, e2] [] pos) (tZm X.K ta) := by
  refine ⟨fun pins s σ H R I h => ?_⟩
  refine Call_ (ld_blt I hg hm PyProof.Rows.boot_zip (PyProof.Rows.callWith_type1 (thn (ha.run pos pins s σ H _ I h) fun us s1 ⟨vs, H1, I1, r1, a, b, xs, ys, ev, hqx, hqy, q⟩ => ?_) hs hpl))
  subst ev
  cases r1 with
  | cons r rr =>
    cases rr with
    | cons r' rr =>
      cases rr
      cases r
      cases r'
      have fresh : ∀ c ∈ [s1.heap.objs.size + 4, s1.heap.objs.size + 2, s1.heap.objs.size + 3, s1.heap.objs.size, s1.heap.objs.size + 1], FpOk X pins H1 c := fun c hcm => by
        have le : s1.heap.objs.size ≤ c := by
          simp only [List.mem_cons, List.not_mem_nil, or_false] at hcm
          omega
        exact I1.fpOk le (I1.hok.fresh le)
      obtain ⟨its, rv, p1, _⟩ := I1.list hqx
      obtain ⟨its2, rv2, p2, _⟩ := I1.tuple (.inl hqy)
      obtain ⟨o2, ho2, _⟩ := id p2
      refine zm_call p1.isList p2 fun h' iz pi po i1 i2 hk => wpAny_pyIter_zip iz ?_
      have I2 : Inv X pins σ H1 { s1 with heap := h' } := I1.kept (t' := s1.toks) hk
      exact ⟨s1.heap.objs.size + 4, [s1.heap.objs.size + 4, s1.heap.objs.size + 2, s1.heap.objs.size + 3, s1.heap.objs.size, s1.heap.objs.size + 1], _, _, H1, rfl, I2, turn_zm (PySem.W.ktu_apart s1.heap.objs.size a b p1.lt (Heap.lt_size ho2)), ⟨iz, pi, ⟨_, _, po⟩, i1, i2⟩, fresh, q⟩
def zipD (ds es : List Dd) : List Dd := ds.zipWith (fun d e => Dd.utp [d, e]) es
theorem walkD_zm {K : PySem.W.Frag} {a b : Addr} {xs ys : List V} {ds es : List Dd} {Hf : Hp} (h1 : Hf a = some (.lst xs)) (r1 : RepAll Hf xs ds) (h2 : Rd Hf b (.tup ys)) (r2 : RepAll Hf ys es) : WalkD (Izm K a b) (zipD ds es) Hf := by
  have hl : (zipD ds es).length = min xs.length ys.length := by simp [zipD, r1.length, r2.length]
  refine ⟨fun i H hi s => ?_, fun H s => ⟨xs, ys, .of (s _ _ h1), rd_mono s h2, by rw [hl]; omega⟩, fun i Hf1 H v H' hi s s1 q => ?_⟩
  · rw [hl] at hi
    exact ⟨xs, ys, xs[i]'(by omega), ys[i]'(by omega), .of (s _ _ h1), rd_mono s h2, List.getElem?_eq_getElem (by omega), List.getElem?_eq_getElem (by omega)⟩
  · rw [hl] at hi
    obtain ⟨T, x, y, rfl, hT, rfl, e1, e2⟩ := q
    obtain ⟨d, d1, d2⟩ := r1.get (e1 xs (.of (s1 _ _ (s _ _ h1))))
    obtain ⟨e, f1, f2⟩ := r2.get (e2 ys (rd_mono s1 (rd_mono s h2)))
    refine ⟨_, _, Grow.one s1 hT, ?_, .utp (.inl upd_same) (.cons ((d2.mono s).mono (Grow.one s1 hT).fz) (.cons ((f2.mono s).mono (Grow.one s1 hT).fz) .nil))⟩
    simp [zipD, List.getElem?_zipWith, d1, f1]
section
variable {X : Cx} {W : WX} {e e2 : Expr} {pos p tpos : Pos} {elts : List Expr} {kk : Nat} {wa : WA}
def wIZm (wa : WA) : WA := fun sl M Q E => wa sl M (fun ds M1 => ∃ xs d ys, ds = [.lst xs, d] ∧ der M1 d = .tup ys ∧ Q (zipD xs ys) M1) E
/-- zip(list, tuple) -/
theorem i_zipM (hg : Gl X "zip") (hm : X.mg "zip" = none) (ha : PA X [e, e2] (lowA W wa)) (hs : starEach [e, e2] X.env = (false, eval e X.env) :: starEach [e2] X.env := by rfl) (hpl : (backTo pos (starEach [e2] X.env)).any (·.1) = false := by rfl) :
    PI X (.Tuple elts kk tpos) (.Call (.Name "zip" p) [e, e2] [] pos) (lowI W (wIZm wa)) := by
  refine PI.imp (pi_zm hg hm ha hs hpl) fun σ H R ⟨sl, Hf, M, Qd, Xd, rl, w, k, kx⟩ => ⟨sl, Hf, M, _, Xd, rl, w, fun ds Hf1 M1 vs H1 s1 r1 w1 => ?_, kx⟩
  obtain ⟨xs, d, ys, rfl, hd, q⟩ := w1
  cases r1 with
  | cons h r =>
    cases r with
    | cons h' r =>
      cases r
      have rt := RepT.of s1.wd h'
      rw [hd] at rt
      obtain ⟨b, vs, rfl, hb, rb⟩ := rt.tup
      cases h with
      | @lst a us _ ha ra => exact ⟨a, b, us, vs, rfl, .of (s1.wd.le _ _ ha), rd_mono s1.wd.le hb, k _ Hf1 M1 _ H1 s1 (walkD_zm ha ra hb rb) q⟩
end
section
variable {X : Cx} {W : WX} {cs : List Addr} {k : Nat} {sp : DSp} {g : Addr} {a b : Expr} {wa wb : DL.WE} {pos : Pos}
/-- in by a method of one's own, as a test -/
theorem t_inO (bA : Bare bm X.A) (hr : Room k X.A) (tk : Takes X W) (hc : ∀ C ∈ cs, OwnM X.K C "__contains__" g) (F : FD bm X k g sp) (ha : PE X a (low W wa)) (hb : PE X b (low W wb)) (hm : behindInMarks .In b = false) : PT X (.Compare a [.In] [b] pos) (lowT W (wTest (wInO id cs sp wa wb))) := by
  refine PT.imp ?_ fun σ H Q z => low_test σ H Q z
  refine ⟨fun pins s σ H Q I h => ?_⟩
  refine wpAny_isTrue_Compare1 (thn (ha.run pins s σ H _ I (low_inO h)) fun v s1 ⟨x, H1, I1, r1, q1⟩ => thn (hb.run pins s1 σ H1 _ I1 q1) fun u s2 ⟨y, H2, I2, ry, q2⟩ => ?_) hm
  obtain ⟨b, C, dx, fs, rfl, h2, hC, q⟩ := q2
  obtain rfl : u = Value.ref b := ry
  obtain ⟨mB, J2, _⟩ := ins_get I2.hok h2
  obtain ⟨od2, J2, _⟩ := J2.look
  obtain ⟨m, hF⟩ := I2.fr
  have c := hc C hC
  refine PySem.W.in_K hF I2.ok.mod.kin J2 c.at_ c.fn ?_
  refine wpAny_mono (run_G (us := [.ref b, v]) (vs := [.ref b, x]) F bA hr (passAt tk σ) I2 (.cons rfl (.cons r1 .nil)) q) (fun r s' z => ?_) fun _ _ z => z
  obtain ⟨_, H', I', rr, z, rfl, kz, ek, q⟩ := z
  cases rr
  cases ek
  exact wpAny_truthy_bool (wpAny_truthy_bool ⟨H', I', q⟩)
end
theorem gEq_nilT {f : Bool → Bool} {d : Dd} {ds : List Dd} {k w : Nat} (h : RS (.tup (d :: ds)) k w) (hk : k ≤ 64) : gEqB f (.tup (d :: ds)) (.tup []) = some (.bl (f false)) := by
  obtain ⟨p, hp, _, _, hd, _⟩ := h
  obtain ⟨q, qs, rfl⟩ : ∃ q qs, p = .tuple (q :: qs) := by
    simp only [py, pyAll, Option.map_eq_some_iff, Option.bind_eq_some_iff] at hp
    obtain ⟨l, h1, rfl⟩ := hp
    obtain ⟨q, _, qs, _, h4⟩ := h1
    exact ⟨q, qs, by rw [← h4]⟩
  unfold gEqB
  rw [hp]
  show (if (PyData.tuple (q :: qs)).depth ≤ 64 then some (Dd.bl (f (PyData.eqv (.tuple (q :: qs)) (.tuple [])))) else none) = _
  rw [if_pos (by omega)]
  rfl
theorem op_notB {X : Cx} : OpR X (compareOp .IsNot) (fun x y H Q => ∃ a b : Bool, x = .bl a ∧ y = .bl b ∧ Q (.bl (!decide (a = b))) H) := by
  rintro pins s σ H x y v u Q I rx ry ⟨a, b, rfl, rfl, q⟩
  cases rx
  cases ry
  by_cases e : a = b
  · subst e
    exact wpAny_isNot_self rfl ⟨.bl false, H, I, rfl, by simpa using q⟩
  · exact wpAny_isNot_other rfl (fun z => e (Value.bool.inj z)) ⟨.bl true, H, I, rfl, by simpa [e] using q⟩
def gNotB : Dd → Dd → Option Dd
  | .bl a, .bl b => some (.bl (!decide (a = b)))
  | _, _ => none
/-- b is not True, of bools -/
theorem o_isnotB {X : Cx} : OpG X (compareOp .IsNot) gNotB := by
  refine ⟨_, op_notB, fun Hf M H x y d e z Q w hx hy hz q => ?_⟩
  unfold gNotB at hz
  split at hz
  · rename_i a b
    cases hz
    have e1 : x = .bl a := hx.bl
    have e2 : y = .bl b := hy.bl
    exact ⟨a, b, e1, e2, q _ Hf H (Grow.refl w.le) (.bl _)⟩
  · cases hz
end DL
/-! DQ1: a == b and a != b, a an instance with an own ==, b of any kind. -/
namespace DL
open PySem PySem.Spec PyProof.Rows L2 Enc PySem.Calls
section
variable {prog : Program} {w : World} {A : Around} {E : Value → Shared → Prop} {s : Shared} {K : PySem.W.Frag} {x C f : Addr} {ox : Obj} {od : Option Obj} {y tb : Value}
theorem ne_any {Q : Value → Shared → Prop} (hu : A.units + 2 < cLine) (X : K.In s.heap) (J : PySem.W.InstAt s.heap x ox C od) (hy : PySem.W.Looks (model prog w) s.heap (typeOf y) tb) (nf : PySem.W.notFirst K C tb = true) (hm : PySem.W.mroIn K C (.type "object") = some true)
    (hn : PySem.W.findIn K (.ref C) "__ne__" = some (some (.builtin "object.__ne__"))) (he : PySem.W.findIn K (.ref C) "__eq__" = some (some (.ref f))) (hf : PySem.W.isFn K (.ref f) = true)
    (h : wpAny (model prog w) A.in1 (call (.ref f) [.ref x, y]) (fun v s' => ∃ b, v = .bool b ∧ Q (.bool (!b)) s') E s) : wpAny (model prog w) A (richCompare .NotEq (.ref x) y) Q E s := by
  have body : wpAny (model prog w) A (call (.builtin "object.__ne__") [.ref x, y]) (fun v s' => ∃ b, v = .bool b ∧ Q (.bool b) s') E s := by
    apply wpAny_call
    apply codeAny_call_builtin F.cmp_object.ne.plain F.cmpEntry_ne
    apply PySem.W.check_slot F.cmpKind_ne F.cmpSplit_ne (J.type.andThen (PySem.W.looks_mroIn X hm)) (F.cmpArgs_ne _ _)
    unfold Builtin.«object.__ne__»
    refine wpAny_bind (m := slotArgs "__ne__" 1 _) (wpAny_pure ?_)
    refine wpAny_bind (m := cRoomFor _ _) (wpAny_cRoomFor (by show A.units + 1 < _; omega) ?_)
    refine wpAny_bind (m := callSpecialIfBound? (.ref x) (Str.ofString "__eq__") _) (PySem.W.ifBound_K X J he hf (wpAny_mono h (fun r s' hq => ?_) fun _ _ z => z))
    obtain ⟨b, rfl, q⟩ := hq
    refine wpAny_bind (wpAny_truthy_bool ?_)
    exact wpAny_pure ⟨_, rfl, q⟩
  have one : wpAny (model prog w) A (tryCompare (.ref x) (cmpInfo .NotEq).2.1 y) (fun r s' => ∃ v, r = some v ∧ Q v s') E s := by
    simp only [tryCompare]
    apply wpAny_bind
    refine ifBound_B X J hn F.cmp_object.ne.bind (wpAny_mono body (fun v s' z => ?_) fun _ _ z => z)
    obtain ⟨b, rfl, q⟩ := z
    exact wpAny_pure ⟨_, rfl, q⟩
  unfold richCompare
  simp only [oneThing_ref]
  apply wpAny_holding
  apply wpAny_bind
  apply wpAny_cRoomFor (by omega)
  apply wpAny_bind
  apply J.type.here
  apply wpAny_bind
  apply hy.here
  split
  · rename_i q
    have e : PySem.W.subIn K tb (.ref C) = some false := by
      rcases Bool.or_eq_true_iff.mp nf with e | e
      · rw [beq_iff_eq.mp e] at q; simp at q
      · exact beq_iff_eq.mp e
    apply wpAny_bind
    apply (PySem.W.looks_subIn X e).here
    simp only [Bool.false_eq_true, if_false]
    apply wpAny_bind
    refine wpAny_mono one (fun r s' z => ?_) fun _ _ e => e
    obtain ⟨v, rfl, hq⟩ := z
    exact wpAny_pure hq
  · apply wpAny_bind
    apply wpAny_pure
    simp only [Bool.false_eq_true, if_false]
    apply wpAny_bind
    refine wpAny_mono one (fun r s' z => ?_) fun _ _ e => e
    obtain ⟨v, rfl, hq⟩ := z
    exact wpAny_pure hq
end
structure EqX (K : PySem.W.Frag) (cs : List Addr) (C g : Addr) : Prop where
  own : OwnE K C g
  sub : ∀ T ∈ oddK, PySem.W.subIn K (.type T) (.ref C) = some false
  subC : ∀ D ∈ cs, D ≠ C → PySem.W.subIn K (.ref D) (.ref C) = some false
section
variable {X : Cx} {W : WX} {cs : List Addr} {k : Nat} {sp : Addr → DSp} {g : Addr → Addr} {a b : Expr} {wa wb : DL.WE} {pos : Pos}
theorem rightT {pins : List (Addr × Obj)} {σ : L2.St} {H Hf : Hp} {M : MS} {s : Shared} {C : Addr} {v : V} {u : Value} {d : Dd} (I : Inv X pins σ H s) (c : EqX X.K cs C (g C)) (wd : Wd Hf M H) (rt : RepT Hf M H v d) (ry : RelV v u) (ok : RightOk cs d) :
    ∃ tb, PySem.W.Looks (model X.prog X.w) s.heap (typeOf u) tb ∧ PySem.W.notFirst X.K C tb = true := by
  rcases ok with ⟨D, ks, ds, rfl, hD⟩ | ⟨T, hT⟩
  · obtain ⟨b, dy, gs, rfl, h2, _, _⟩ := rt.ins wd.le
    obtain rfl : u = Value.ref b := ry
    obtain ⟨mB, J2, _⟩ := ins_get I.hok h2
    obtain ⟨od2, J2, _⟩ := J2.look
    refine ⟨_, J2.type, ?_⟩
    by_cases e : D = C
    · subst e
      simp [PySem.W.notFirst]
    · simp [PySem.W.notFirst, c.subC D hD e]
  · exact ⟨_, typeD I wd rt ry hT, by simp [PySem.W.notFirst, c.sub T (kindD_in hT)]⟩
theorem eq_step {pins : List (Addr × Obj)} {σ : L2.St} {H2 : Hp} {s2 : Shared} {v u : Value} {x y : V} {Q : VK} (bA : Bare bm X.A) (hr : Room k X.A) (hu : X.A.units + 150 < cLine) (tk : Takes X W) (hc : ∀ C ∈ cs, EqX X.K cs C (g C)) (F : ∀ C ∈ cs, FD bm X k (g C) (sp C)) (I2 : Inv X pins σ H2 s2) (rx : RelV x v) (ry : RelV y u)
    (q : ∃ a C dx fs Hf M d, x = .ref a ∧ H2 a = some (.ins C dx fs) ∧ Wd Hf M H2 ∧ RepT Hf M H2 y d ∧ RightOk cs d ∧ C ∈ cs ∧ liftV (sp C) [.ref a, y] H2 Q (fun c d H => W c d σ H)) : wpAny (model X.prog X.w) X.A (compareOp .Eq v u) (EP X pins σ Q) X.xe s2 := by
  obtain ⟨a, C, dx, fs, Hf, M, d, rfl, h1, wd, rt, ok, hC, q⟩ := q
  obtain rfl : v = Value.ref a := rx
  obtain ⟨mA, J, _⟩ := ins_get I2.hok h1
  obtain ⟨od, J, _⟩ := J.look
  obtain ⟨m, hF⟩ := I2.fr
  have c := hc C hC
  obtain ⟨tb, ht, nf⟩ := rightT I2 c wd rt ry ok
  show wpAny (model X.prog X.w) X.A (richCompare .Eq (.ref a) u) (EP X pins σ Q) X.xe s2
  refine PySem.W.cmp_K (op := .Eq) (by omega) hF I2.ok.mod.kin J ht nf c.own.eq c.own.fn ?_
  exact wpAny_mono (run_G (us := [.ref a, u]) (vs := [.ref a, y]) (F C hC) bA hr (passAt tk σ) I2 (.cons rfl (.cons ry .nil)) q) (fun _ _ z => ep_cmp z) fun _ _ z => z
theorem d_eqA (bA : Bare bm X.A) (hr : Room k X.A) (hu : X.A.units + 150 < cLine) (tk : Takes X W) (hc : ∀ C ∈ cs, EqX X.K cs C (g C)) (F : ∀ C ∈ cs, FD bm X k (g C) (sp C)) (ha : PE X a (low W wa)) (hb : PE X b (low W wb)) (hm : behindInMarks .Eq b = false) : PE X (.Compare a [.Eq] [b] pos) (low W (wAddA cs sp wa wb)) :=
  ⟨fun pins s σ H Q I h => wpAny_Compare1 (binT ha hb I (low_addA h) fun v u s2 x y H2 I2 rx ry q => eq_step bA hr hu tk hc F I2 rx ry q) hm⟩
theorem nea_step {pins : List (Addr × Obj)} {σ : L2.St} {H2 : Hp} {s2 : Shared} {v u : Value} {x y : V} {Q : VK} (bA : Bare bm X.A) (hr : Room (k + 1) X.A) (hu : X.A.units + 150 < cLine) (tk : Takes X W) (hc : ∀ C ∈ cs, EqX X.K cs C (g C)) (F : ∀ C ∈ cs, FD bm X k (g C) (sp C)) (I2 : Inv X pins σ H2 s2) (rx : RelV x v) (ry : RelV y u)
    (q : ∃ a C dx fs Hf M d, x = .ref a ∧ H2 a = some (.ins C dx fs) ∧ Wd Hf M H2 ∧ RepT Hf M H2 y d ∧ RightOk cs d ∧ C ∈ cs ∧ liftV (spNe (sp C)) [.ref a, y] H2 Q (fun c d H => W c d σ H)) : wpAny (model X.prog X.w) X.A (compareOp .NotEq v u) (EP X pins σ Q) X.xe s2 := by
  obtain ⟨a, C, dx, fs, Hf, M, d, rfl, h1, wd, rt, ok, hC, q⟩ := q
  obtain rfl : v = Value.ref a := rx
  obtain ⟨mA, J, _⟩ := ins_get I2.hok h1
  obtain ⟨od, J, _⟩ := J.look
  have c := hc C hC
  obtain ⟨tb, ht, nf⟩ := rightT I2 c wd rt ry ok
  show wpAny (model X.prog X.w) X.A (richCompare .NotEq (.ref a) u) (EP X pins σ Q) X.xe s2
  refine ne_any (by omega) I2.kIn J ht nf c.own.mro c.own.ne c.own.eq c.own.fn ?_
  refine wpAny_mono (run_G1 (us := [.ref a, u]) (vs := [.ref a, y]) (F C hC) bA hr (passAt tk σ) I2 (.cons rfl (.cons ry .nil)) (lift_ne q)) (fun r s' z => ?_) fun _ _ z => z
  obtain ⟨_, H', I', rr, b, rfl, q⟩ := z
  cases rr
  exact ⟨b, rfl, .bl (!b), H', I', rfl, q⟩
theorem d_neA (bA : Bare bm X.A) (hr : Room (k + 1) X.A) (hu : X.A.units + 150 < cLine) (tk : Takes X W) (hc : ∀ C ∈ cs, EqX X.K cs C (g C)) (F : ∀ C ∈ cs, FD bm X k (g C) (sp C)) (ha : PE X a (low W wa)) (hb : PE X b (low W wb)) (hm : behindInMarks .NotEq b = false) : PE X (.Compare a [.NotEq] [b] pos) (low W (wAddA cs (fun C => spNe (sp C)) wa wb)) :=
  ⟨fun pins s σ H Q I h => wpAny_Compare1 (binT ha hb I (low_addA h) fun v u s2 x y H2 I2 rx ry q => nea_step bA hr hu tk hc F I2 rx ry q) hm⟩
theorem t_eqA (bA : Bare bm X.A) (hr : Room k X.A) (hu : X.A.units + 150 < cLine) (tk : Takes X W) (hc : ∀ C ∈ cs, EqX X.K cs C (g C)) (F : ∀ C ∈ cs, FD bm X k (g C) (sp C)) (ha : PE X a (low W wa)) (hb : PE X b (low W wb)) (hm : behindInMarks .Eq b = false) : PT X (.Compare a [.Eq] [b] pos) (lowT W (wTest (wAddA cs sp wa wb))) := by
  refine PT.imp ?_ fun σ H Q z => low_test σ H Q z
  refine ⟨fun pins s σ H Q I h => ?_⟩
  refine wpAny_isTrue_Compare1 (thn (ha.run pins s σ H _ I (low_addA h)) fun v s1 ⟨x, H1, I1, r1, q1⟩ => thn (hb.run pins s1 σ H1 _ I1 q1) fun u s2 ⟨y, H2, I2, ry, q2⟩ => thn (eq_step bA hr hu tk hc F I2 r1 ry q2) fun c s3 ⟨z, H3, I3, r3, kk, e, q3⟩ => ?_) hm
  subst e
  cases r3
  exact wpAny_truthy_bool ⟨H3, I3, q3⟩
theorem t_neA (bA : Bare bm X.A) (hr : Room (k + 1) X.A) (hu : X.A.units + 150 < cLine) (tk : Takes X W) (hc : ∀ C ∈ cs, EqX X.K cs C (g C)) (F : ∀ C ∈ cs, FD bm X k (g C) (sp C)) (ha : PE X a (low W wa)) (hb : PE X b (low W wb)) (hm : behindInMarks .NotEq b = false) : PT X (.Compare a [.NotEq] [b] pos) (lowT W (wTest (wAddA cs (fun C => spNe (sp C)) wa wb))) := by
  refine PT.imp ?_ fun σ H Q z => low_test σ H Q z
  refine ⟨fun pins s σ H Q I h => ?_⟩
  refine wpAny_isTrue_Compare1 (thn (ha.run pins s σ H _ I (low_addA h)) fun v s1 ⟨x, H1, I1, r1, q1⟩ => thn (hb.run pins s1 σ H1 _ I1 q1) fun u s2 ⟨y, H2, I2, ry, q2⟩ => thn (nea_step bA hr hu tk hc F I2 r1 ry q2) fun c s3 ⟨z, H3, I3, r3, kk, e, q3⟩ => ?_) hm
  subst e
  cases r3
  exact wpAny_truthy_bool ⟨H3, I3, q3⟩
end
end DL
/-! DQ2: a == b, b an instance with an own ==, a of a built-in kind. -/
namespace DL
open PySem PySem.Spec PyProof.Rows L2 Enc PySem.Calls
open AutoSeq1 (wpAny_loadPart')
section
variable {prog : Program} {w : World} {A : Around} {E : Value → Shared → Prop} {s : Shared} {K : PySem.W.Frag} {x C f : Addr} {ox : Obj} {od : Option Obj} {v : Value} {T id : String}
theorem rc_refl {Q : Value → Shared → Prop} (hu : A.units < cLine) (X : K.In s.heap) (J : PySem.W.InstAt s.heap x ox C od) (hv : s.TypeIs v T) (hns : PySem.W.Looks (model prog w) s.heap (isSubtype (.ref C) (.type T)) false) (sl : Slot T (cmpInfo .Eq).2.1 id)
    (hd : ∀ Q' : Value → Shared → Prop, Q' .notImplemented s → wpAny (model prog w) A (call (.builtin id) [v, .ref x]) Q' E s) (hs : PySem.W.findIn K (.ref C) "__eq__" = some (some (.ref f))) (hf : PySem.W.isFn K (.ref f) = true)
    (h : wpAny (model prog w) A (call (.ref f) [.ref x, v]) (PySem.W.CmpBack Q) E s) : wpAny (model prog w) A (richCompare .Eq v (.ref x)) Q E s := by
  have one : wpAny (model prog w) A (tryCompare (.ref x) (cmpInfo .Eq).2.2 v) (fun r s' => ∃ u, r = some u ∧ Q u s') E s := by
    unfold tryCompare
    refine wpAny_bind (PySem.W.ifBound_K X J hs hf (wpAny_mono h (fun r s' z => ?_) fun _ _ e => e))
    cases r <;> first | exact z.elim | exact wpAny_pure ⟨_, rfl, z⟩
  rcases hi : cmpInfo CmpOp.Eq with ⟨sym, f1, r1⟩
  rw [hi] at sl one
  simp only [richCompare, hi, hv.oneThing_none]
  apply wpAny_holding
  apply wpAny_bind
  refine wpAny_cRoomFor_or (.inr hu) ?_
  apply wpAny_bind
  apply wpAny_typeOf hv
  apply wpAny_bind
  apply J.type.here
  rw [show ((Value.type T != Value.ref C) = true) from rfl]
  simp only [if_true]
  apply wpAny_bind
  apply hns.here
  simp only [Bool.false_eq_true, if_false, Bool.not_false, if_true]
  refine wpAny_bind (m := tryCompare v _ (.ref x)) (wpAny_tryCompare_declines hv sl (hd _ ⟨rfl, ?_⟩))
  refine wpAny_bind (m := tryCompare (.ref x) _ v) (wpAny_mono one (fun r s' z => ?_) fun _ _ e => e)
  obtain ⟨u, rfl, q⟩ := z
  exact wpAny_pure q
end
theorem dec_int (i : Int) (t : Tok) (x C dx : Addr) : Meets (Builtin.«int.__eq__» ⟨[.int i t, .ref x], []⟩) (fun _ R s => s.heap.get? x = some (PySem.W.instObj C dx) ∧ R (.ok (.ret .notImplemented)) s) :=
  .of_wp fun prog w A R s h => by
    obtain ⟨hp, g, d, tk, os⟩ := s
    obtain ⟨hl, h⟩ := h
    wp_walk using wpAny_loadPart' hl, wpAny_load hl
    exact ⟨_, rfl, h⟩
theorem dec_bool (b : Bool) (x C dx : Addr) : Meets (Builtin.«int.__eq__» ⟨[.bool b, .ref x], []⟩) (fun _ R s => s.heap.get? x = some (PySem.W.instObj C dx) ∧ R (.ok (.ret .notImplemented)) s) :=
  .of_wp fun prog w A R s h => by
    obtain ⟨hp, g, d, tk, os⟩ := s
    obtain ⟨hl, h⟩ := h
    wp_walk using wpAny_loadPart' hl, wpAny_load hl
    exact ⟨_, rfl, h⟩
theorem dec_str (b : Str) (u : Tok) (x C dx : Addr) : Meets (Builtin.«str.__eq__» ⟨[.str b u, .ref x], []⟩) (fun _ R s => s.heap.get? x = some (PySem.W.instObj C dx) ∧ R (.ok (.ret .notImplemented)) s) :=
  .of_wp fun prog w A R s h => by
    obtain ⟨hp, g, d, tk, os⟩ := s
    obtain ⟨hl, h⟩ := h
    wp_walk using wpAny_loadPart' hl, wpAny_load hl
    exact ⟨_, rfl, h⟩
theorem dec_list (l x C dx : Addr) : Meets (Builtin.«list.__eq__» ⟨[.ref l, .ref x], []⟩) (fun _ R s => s.heap.get? x = some (PySem.W.instObj C dx) ∧ (∀ prog w, PySem.W.Looks (model prog w) s.heap (isSubtype (.ref C) (.type "list")) false) ∧ R (.ok (.ret .notImplemented)) s) :=
  .of_wp fun prog w A R s h => by
    obtain ⟨hl, hn, h⟩ := h
    refine wpAny_bind (m := slotArgs "__eq__" 1 _) (wpAny_pure ?_)
    refine wpAny_bind (m := isInstance (.ref x) (.type "list")) ?_
    simp only [isInstance]
    refine wpAny_bind (wpAny_typeOf_ref (o := PySem.W.instObj C dx) hl ?_)
    apply (hn _ _).here
    exact wpAny_pure ⟨_, rfl, h⟩
theorem dec_tuple (l x C dx : Addr) : Meets (Builtin.«tuple.__eq__» ⟨[.ref l, .ref x], []⟩) (fun _ R s => s.heap.get? x = some (PySem.W.instObj C dx) ∧ (∀ prog w, PySem.W.Looks (model prog w) s.heap (isSubtype (.ref C) (.type "tuple")) false) ∧ R (.ok (.ret .notImplemented)) s) :=
  .of_wp fun prog w A R s h => by
    obtain ⟨hl, hn, h⟩ := h
    refine wpAny_bind (m := slotArgs "__eq__" 1 _) (wpAny_pure ?_)
    refine wpAny_bind (m := isInstance (.ref x) (.type "tuple")) ?_
    simp only [isInstance]
    refine wpAny_bind (wpAny_typeOf_ref (o := PySem.W.instObj C dx) hl ?_)
    apply (hn _ _).here
    exact wpAny_pure ⟨_, rfl, h⟩
theorem dec_dict (l x C dx : Addr) : Meets (Builtin.«dict.__eq__» ⟨[.ref l, .ref x], []⟩) (fun _ R s => s.heap.get? x = some (PySem.W.instObj C dx) ∧ (∀ prog w, PySem.W.Looks (model prog w) s.heap (isSubtype (.ref C) (.type "dict")) false) ∧ R (.ok (.ret .notImplemented)) s) :=
  .of_wp fun prog w A R s h => by
    obtain ⟨hl, hn, h⟩ := h
    refine wpAny_bind (m := Builtin.Dict.dictSlotArgs "__eq__" _) (wpAny_pure ?_)
    refine wpAny_bind (m := isInstance (.ref x) (.type "dict")) ?_
    simp only [isInstance]
    refine wpAny_bind (wpAny_typeOf_ref (o := PySem.W.instObj C dx) hl ?_)
    apply (hn _ _).here
    exact wpAny_bind (wpAny_rule (wpAny_pure ⟨_, rfl, h⟩))
end DL
/-! DQ3: data of a built-in kind == an instance with an own ==. -/
namespace DL
open PySem PySem.Spec PyProof.Rows L2 Enc PySem.Calls
section
variable {X : Cx} {W : WX} {pins : List (Addr × Obj)} {σ : L2.St} {H Hf : Hp} {M : MS} {s : Shared} {v : V} {u : Value} {d : Dd} {T : String}
/-- the built-in's == declines an instance -/
theorem decl_D {x C dx : Addr} (I : Inv X pins σ H s) (wd : Wd Hf M H) (rt : RepT Hf M H v d) (rv : RelV v u) (h : kindD d = some T) (hx : s.heap.get? x = some (PySem.W.instObj C dx)) (hn : ∀ prog w, PySem.W.Looks (model prog w) s.heap (isSubtype (.ref C) (.type T)) false) :
    s.TypeIs u T ∧ ∃ id, Slot T (cmpInfo .Eq).2.1 id ∧ ∀ (A : Around) (E : Value → Shared → Prop) (Q' : Value → Shared → Prop), Q' .notImplemented s → wpAny (model X.prog X.w) A (call (.builtin id) [u, .ref x]) Q' E s := by
  have flat : ∀ {v : V} {d : Dd}, RepT Hf M H v d → (d = .non ∨ (∃ b, d = .bl b) ∨ (∃ i, d = .int i) ∨ ∃ z, d = .str z) → Rep Hf v d := by
    intro v d r e
    cases r with
    | fz r => exact r
    | @mu a mo _ _ => cases mo <;> rcases e with e | ⟨_, e⟩ | ⟨_, e⟩ | ⟨_, e⟩ <;> cases e
  cases d with
  | non =>
    cases h
    cases flat rt (.inl rfl)
    cases rv
    exact ⟨rfl, _, F.slot_NoneType_eq, fun A E Q' q => call_gives F.slot_NoneType_eq rfl F.entry_NoneType_eq (F.args_NoneType_eq_2 _ _) (SeqAt.NoneType___eq___none_ref_0 x) q⟩
  | bl b =>
    cases h
    cases flat rt (.inr (.inl ⟨_, rfl⟩))
    cases rv
    exact ⟨rfl, _, F.slot_bool_eq, fun A E Q' q => call_meets F.slot_bool_eq rfl F.entry_int_eq (F.args_int_eq_2 _ _) (dec_bool b x C dx) ⟨hx, q⟩⟩
  | int i =>
    cases h
    cases flat rt (.inr (.inr (.inl ⟨_, rfl⟩)))
    obtain ⟨t, rfl⟩ := rv
    exact ⟨rfl, _, F.slot_int_eq, fun A E Q' q => call_meets F.slot_int_eq rfl F.entry_int_eq (F.args_int_eq_2 _ _) (dec_int i t x C dx) ⟨hx, q⟩⟩
  | str z =>
    cases h
    cases flat rt (.inr (.inr (.inr ⟨_, rfl⟩)))
    obtain ⟨t, rfl⟩ := rv
    exact ⟨rfl, _, F.slot_str_eq, fun A E Q' q => call_meets F.slot_str_eq rfl F.entry_str_eq (F.args_str_eq_2 _ _) (dec_str z t x C dx) ⟨hx, q⟩⟩
  | tup ds =>
    cases h
    obtain ⟨a, xs, rfl, ha, _⟩ := rt.tup
    obtain rfl : u = Value.ref a := rv
    obtain ⟨its, _, ⟨o, ho, hc, _⟩, _⟩ := I.tuple (.inl (rd_mono wd.le ha))
    exact ⟨⟨o, ho, hc⟩, _, F.slot_tuple_eq, fun A E Q' q => call_meets F.slot_tuple_eq ⟨o, ho, hc⟩ F.entry_tuple_eq (F.args_tuple_eq_2 _ _) (dec_tuple a x C dx) ⟨hx, hn, q⟩⟩
  | lst ds =>
    cases h
    obtain ⟨a, xs, rfl, ha, _⟩ := rt.lst wd.le
    obtain rfl : u = Value.ref a := rv
    obtain ⟨its, _, hl, _⟩ := I.list (.of ha)
    obtain ⟨o, ho, hc, _⟩ := hl.isList
    exact ⟨⟨o, ho, hc⟩, _, F.slot_list_eq, fun A E Q' q => call_meets F.slot_list_eq ⟨o, ho, hc⟩ F.entry_list_eq (F.args_list_eq_2 _ _) (dec_list a x C dx) ⟨hx, hn, q⟩⟩
  | dic ks ds =>
    cases h
    obtain ⟨a, kvs, rfl, ha, _, _⟩ := rt.dic wd.le
    obtain rfl : u = Value.ref a := rv
    obtain ⟨_, _, vs, _, o, es, ep, ho, hc, _⟩ := dk_of I.hok ha
    exact ⟨⟨o, ho, hc.1⟩, _, F.slot_dict_eq, fun A E Q' q => call_meets F.slot_dict_eq ⟨o, ho, hc.1⟩ F.entry_dict_eq (F.args_dict_eq_2 _ _) (dec_dict a x C dx) ⟨hx, hn, q⟩⟩
  | _ => cases h
end
section
variable {X : Cx} {W : WX} {cs : List Addr} {k : Nat} {sp : Addr → DSp} {g : Addr → Addr} {a b : Expr} {wa wb : DL.WE} {pos : Pos}
def wEqR (cs : List Addr) (sp : Addr → DSp) (wa wb : DL.WE) : DL.WE := fun sl M Q E => wa sl M (fun d M1 => wb sl M1 (fun e M2 => ∃ C ks ds T, der M2 e = .ins C ks ds ∧ kindD (der M2 d) = some T ∧ C ∈ cs ∧ sp C [e, d] M2 Q E) E) E
theorem low_eqR {σ : L2.St} {H : Hp} {Q : VK} (h : low W (wEqR cs sp wa wb) σ H Q) : low W wa σ H fun x H1 => low W wb σ H1 fun y H2 => ∃ b C dx fs Hf M d T, y = .ref b ∧ H2 b = some (.ins C dx fs) ∧ Wd Hf M H2 ∧ RepT Hf M H2 x d ∧ kindD d = some T ∧ C ∈ cs ∧ liftV (sp C) [.ref b, x] H2 Q (fun c d H => W c d σ H) := by
  obtain ⟨sl, Hf, M, Qd, Xd, rl, w, k, kx⟩ := h
  refine ⟨sl, Hf, M, _, Xd, rl, w, fun d Hf1 M1 v H1 s1 r1 w1 => ?_, kx⟩
  refine ⟨sl, Hf1, M1, _, Xd, rl.step s1, w1, fun e Hf2 M2 u H2 s2 r2 w2 => ?_, fun c Hf' M' H' s q => kx c Hf' M' H' (s1.trans s) q⟩
  obtain ⟨C, ks, ds, T, he, hk, hC, q⟩ := w2
  have rt2 := RepT.of s2.wd r2
  rw [he] at rt2
  obtain ⟨b, dx, fs, rfl, hb, _, _⟩ := rt2.ins s2.wd.le
  exact ⟨b, C, dx, fs, Hf2, M2, _, T, rfl, hb, s2.wd, RepT.of s2.wd (r1.mono s2.up), hk, hC, [e, d], Hf2, M2, Qd, Xd, .cons r2 (.cons (r1.mono s2.up) .nil), s2.wd, q, fun d Hf3 M3 v H3 s3 => k d Hf3 M3 v H3 ((s1.trans s2).trans s3), fun c Hf3 M3 H3 s3 => kx c Hf3 M3 H3 ((s1.trans s2).trans s3)⟩
theorem eqr_step {pins : List (Addr × Obj)} {σ : L2.St} {H2 : Hp} {s2 : Shared} {v u : Value} {x y : V} {Q : VK} (bA : Bare bm X.A) (hr : Room k X.A) (hu : X.A.units + 150 < cLine) (tk : Takes X W) (hc : ∀ C ∈ cs, EqX X.K cs C (g C)) (hs : ∀ C ∈ cs, ∀ T ∈ oddK, PySem.W.subIn X.K (.ref C) (.type T) = some false) (F : ∀ C ∈ cs, FD bm X k (g C) (sp C)) (I2 : Inv X pins σ H2 s2) (rx : RelV x v) (ry : RelV y u)
    (q : ∃ b C dx fs Hf M d T, y = .ref b ∧ H2 b = some (.ins C dx fs) ∧ Wd Hf M H2 ∧ RepT Hf M H2 x d ∧ kindD d = some T ∧ C ∈ cs ∧ liftV (sp C) [.ref b, x] H2 Q (fun c d H => W c d σ H)) : wpAny (model X.prog X.w) X.A (compareOp .Eq v u) (EP X pins σ Q) X.xe s2 := by
  obtain ⟨b, C, dx, fs, Hf, M, d, T, rfl, h1, wd, rt, hk, hC, q⟩ := q
  obtain rfl : u = Value.ref b := ry
  obtain ⟨_, _, _, hob, _⟩ := (show ObjOk X.prog X.w H2 s2.heap b (.ins C dx fs) from I2.hok b _ h1)
  obtain ⟨mB, J, _⟩ := ins_get I2.hok h1
  obtain ⟨od, J, _⟩ := J.look
  have c := hc C hC
  have hn : ∀ prog w, PySem.W.Looks (model prog w) s2.heap (isSubtype (.ref C) (.type T)) false := fun prog w => PySem.W.looks_subIn I2.kIn (hs C hC T (kindD_in hk))
  obtain ⟨ty, id, sl, dec⟩ := decl_D I2 wd rt rx hk hob hn
  show wpAny (model X.prog X.w) X.A (richCompare .Eq v (.ref b)) (EP X pins σ Q) X.xe s2
  refine rc_refl (by omega) I2.kIn J ty (hn _ _) sl (fun Q' z => dec _ _ Q' z) c.own.eq c.own.fn ?_
  exact wpAny_mono (run_G (us := [.ref b, v]) (vs := [.ref b, x]) (F C hC) bA hr (passAt tk σ) I2 (.cons rfl (.cons rx .nil)) q) (fun _ _ z => ep_cmp z) fun _ _ z => z
theorem d_eqR (bA : Bare bm X.A) (hr : Room k X.A) (hu : X.A.units + 150 < cLine) (tk : Takes X W) (hc : ∀ C ∈ cs, EqX X.K cs C (g C)) (hs : ∀ C ∈ cs, ∀ T ∈ oddK, PySem.W.subIn X.K (.ref C) (.type T) = some false) (F : ∀ C ∈ cs, FD bm X k (g C) (sp C)) (ha : PE X a (low W wa)) (hb : PE X b (low W wb)) (hm : behindInMarks .Eq b = false) : PE X (.Compare a [.Eq] [b] pos) (low W (wEqR cs sp wa wb)) :=
  ⟨fun pins s σ H Q I h => wpAny_Compare1 (binT ha hb I (low_eqR h) fun v u s2 x y H2 I2 rx ry q => eqr_step bA hr hu tk hc hs F I2 rx ry q) hm⟩
theorem t_eqR (bA : Bare bm X.A) (hr : Room k X.A) (hu : X.A.units + 150 < cLine) (tk : Takes X W) (hc : ∀ C ∈ cs, EqX X.K cs C (g C)) (hs : ∀ C ∈ cs, ∀ T ∈ oddK, PySem.W.subIn X.K (.ref C) (.type T) = some false) (F : ∀ C ∈ cs, FD bm X k (g C) (sp C)) (ha : PE X a (low W wa)) (hb : PE X b (low W wb)) (hm : behindInMarks .Eq b = false) : PT X (.Compare a [.Eq] [b] pos) (lowT W (wTest (wEqR cs sp wa wb))) := by
  refine PT.imp ?_ fun σ H Q z => low_test σ H Q z
  refine ⟨fun pins s σ H Q I h => ?_⟩
  refine wpAny_isTrue_Compare1 (thn (ha.run pins s σ H _ I (low_eqR h)) fun v s1 ⟨x, H1, I1, r1, q1⟩ => thn (hb.run pins s1 σ H1 _ I1 q1) fun u s2 ⟨y, H2, I2, ry, q2⟩ => thn (eqr_step bA hr hu tk hc hs F I2 r1 ry q2) fun c s3 ⟨z, H3, I3, r3, kk, e, q3⟩ => ?_) hm
  subst e
  cases r3
  exact wpAny_truthy_bool ⟨H3, I3, q3⟩
end
end DL
/-! DX1: what sleeps stays asleep: a run that is promised of every table of generators leaves the suspended ones alone. -/
namespace GZ
open PySem PyProof.Rows
open Sem (wp)
def susp : GenState → Bool
  | .suspended .. => true
  | _ => false
/-- a suspended generator that can't be woken -/
def stuck : GenState → GenState
  | .suspended _ l c p fs cl => .suspended (fun _ => .unsupported "") l c p fs cl
  | x => x
theorem stuck_seen (x : GenState) : (stuck x).seen = x.seen := by cases x <;> rfl
theorem stuck_bare (x : GenState) : (stuck x).bare = x.bare := by cases x <;> rfl
theorem stuck_susp (x : GenState) : susp (stuck x) = susp x := by cases x <;> rfl
theorem stuck_of {x : GenState} (h : susp x = false) : stuck x = x := by cases x <;> first | rfl | cases h
def PlainF (fs : List Frame) : Prop := ∀ f ∈ fs, ∃ k h g l c p kp, f = .ret k h g l c p kp
def PlainS : GenState → Prop
  | .suspended _ _ _ _ fs _ => PlainF fs
  | _ => True
def PlainE : End → Prop
  | .ret _ => True
  | .susp _ _ _ _ _ _ fs => PlainF fs
theorem plainE_gen {e : End} (h : PlainE e) : PlainS e.genState := by cases e <;> exact h
theorem plain_nil : PlainF [] := fun _ h => absurd h List.not_mem_nil
theorem plain_cons {f : Frame} {fs : List Frame} (h : PlainF (f :: fs)) : PlainF fs := fun x hx => h x (List.mem_cons_of_mem _ hx)
theorem plain_app {fs gs : List Frame} (h : PlainF fs) (k : PlainF gs) : PlainF (fs ++ gs) := fun x hx => (List.mem_append.mp hx).elim (h x) (k x)
theorem plain_split : ∀ {fs : List Frame}, PlainF fs → splitAtGen fs = none
  | [], _ => rfl
  | f :: fs, h => by
    obtain ⟨k, hh, g, l, c, p, kp, rfl⟩ := h f List.mem_cons_self
    show Option.map _ (splitAtGen fs) = none
    rw [plain_split (plain_cons h)]
    rfl
theorem no_unsupp0 {M : Model} {Γ : Ctx} {p : Pos} {w : String} {s s' : Shared} {e : End} (h : Runs M Γ p (.unsupported w) [] s e s') : False := by
  cases h
theorem no_unsupp {M : Model} {Γ : Ctx} {p : Pos} {w : String} {fs : List Frame} {s s' : Shared} {e : End} (h : Runs M Γ p (.unsupported w) fs s e s') : False := by
  cases fs with
  | nil => exact no_unsupp0 h
  | cons f fs => cases h <;> exact no_unsupp0 (by assumption)
def fixed (G : Array GenState) (i : Nat) : Prop := ∃ x, G[i]? = some x ∧ susp x = true
def pick (G : Array GenState) (i : Nat) (y : GenState) : GenState := match G[i]? with
  | some x => if susp x = true then x else y
  | none => y
theorem pick_fix {G : Array GenState} {i : Nat} {x y : GenState} (h : G[i]? = some x) (k : susp x = true) : pick G i y = x := by unfold pick; rw [h]; exact if_pos k
theorem pick_not {G : Array GenState} {i : Nat} {y : GenState} (h : ¬ fixed G i) : pick G i y = y := by
  unfold pick
  cases e : G[i]? with
  | none => rfl
  | some x =>
    show (if susp x = true then x else y) = y
    rw [if_neg fun k => h ⟨x, e, k⟩]
def mgA (G a : Array GenState) : Array GenState := a.mapIdx fun i y => pick G i y
def mg (G : Array GenState) (s : Shared) : Shared := { s with gens := mgA G s.gens }
theorem mgA_get (G a : Array GenState) (i : Nat) : (mgA G a)[i]? = a[i]?.map (pick G i) := by
  unfold mgA
  rw [Array.getElem?_mapIdx]
theorem mgA_size (G a : Array GenState) : (mgA G a).size = a.size := by unfold mgA; rw [Array.size_mapIdx]
theorem mgA_set {G a : Array GenState} {g : Nat} {y : GenState} (h : ¬ fixed G g) : mgA G (a.setIfInBounds g y) = (mgA G a).setIfInBounds g y := by
  apply Array.ext_getElem?
  intro i
  rw [mgA_get, Array.getElem?_setIfInBounds, Array.getElem?_setIfInBounds, mgA_size, mgA_get]
  by_cases e : g = i
  · subst e
    rw [if_pos rfl, if_pos rfl]
    by_cases q : g < a.size
    · rw [if_pos q]
      show some (pick G g y) = some y
      rw [pick_not h]
    · rw [if_neg q]
      rfl
  · rw [if_neg e, if_neg e]
theorem mgA_push {G a : Array GenState} {y : GenState} (h : ¬ fixed G a.size) : mgA G (a.push y) = (mgA G a).push y := by
  apply Array.ext_getElem?
  intro i
  rw [mgA_get, Array.getElem?_push, Array.getElem?_push, mgA_size, mgA_get]
  by_cases e : i = a.size
  · subst e
    rw [if_pos rfl, if_pos rfl]
    show some (pick G a.size y) = some y
    rw [pick_not h]
  · rw [if_neg e, if_neg e]
structure Ok (G : Array GenState) (s : Shared) : Prop where
  fix : ∀ (i : Nat) (x : GenState), G[i]? = some x → susp x = true → s.gens[i]? = some (stuck x)
  pl : ∀ (i : Nat) (y : GenState), s.gens[i]? = some y → fixed G i ∨ PlainS y
section
variable {G : Array GenState} {s : Shared}
theorem Ok.heap {h : Heap} (o : Ok G s) : Ok G { s with heap := h } := ⟨o.fix, o.pl⟩
theorem Ok.same {s' : Shared} (o : Ok G s) (e : s'.gens = s.gens) : Ok G s' := ⟨by rw [e]; exact o.fix, by rw [e]; exact o.pl⟩
theorem Ok.not_fixed {g : Nat} {y : GenState} (o : Ok G s) (h : s.gens[g]? = some y) (n : susp y = false) : ¬ fixed G g := by
  rintro ⟨x, h1, h2⟩
  have e := o.fix g x h1 h2
  rw [h] at e
  cases e
  rw [stuck_susp, h2] at n
  cases n
theorem Ok.set {g : Nat} {y : GenState} (o : Ok G s) (n : ¬ fixed G g) (hy : PlainS y) : Ok G (s.setGen g y) := by
  refine ⟨fun i x h1 h2 => ?_, fun i z hz => ?_⟩
  · show (s.gens.setIfInBounds g y)[i]? = _
    rw [Array.getElem?_setIfInBounds_ne (fun e => n (by subst e; exact ⟨x, h1, h2⟩))]
    exact o.fix i x h1 h2
  · have hz : (s.gens.setIfInBounds g y)[i]? = some z := hz
    by_cases e : g = i
    · subst e
      rw [Array.getElem?_setIfInBounds, if_pos rfl] at hz
      split at hz
      · cases hz
        exact .inr hy
      · cases hz
    · rw [Array.getElem?_setIfInBounds_ne e] at hz
      exact o.pl i z hz
theorem Ok.notSize (o : Ok G s) : ¬ fixed G s.gens.size := by
  rintro ⟨x, h1, h2⟩
  have e := o.fix _ x h1 h2
  rw [Array.getElem?_size] at e
  cases e
theorem Ok.push {c : Code} (o : Ok G s) : Ok G { s with gens := s.gens.push (.fresh c) } := by
  refine ⟨fun i x h1 h2 => ?_, fun i z hz => ?_⟩
  · show (s.gens.push _)[i]? = _
    have e := o.fix i x h1 h2
    rw [Array.getElem?_push, if_neg (fun q => by subst q; exact o.notSize ⟨x, h1, h2⟩)]
    exact e
  · have hz : (s.gens.push _)[i]? = some z := hz
    rw [Array.getElem?_push] at hz
    split at hz
    · cases hz
      exact .inr trivial
    · exact o.pl i z hz
theorem mg_set {g : Nat} {y : GenState} (n : ¬ fixed G g) : mg G (s.setGen g y) = (mg G s).setGen g y := by
  show ({ s with gens := mgA G (s.gens.setIfInBounds g y) } : Shared) = { s with gens := (mgA G s.gens).setIfInBounds g y }
  rw [mgA_set n]
theorem mg_push {c : Code} (o : Ok G s) : mg G { s with gens := s.gens.push (.fresh c) } = { mg G s with gens := (mg G s).gens.push (.fresh c) } := by
  show ({ s with gens := mgA G (s.gens.push (.fresh c)) } : Shared) = { s with gens := (mgA G s.gens).push (.fresh c) }
  rw [mgA_push o.notSize]
theorem mg_get {g : Nat} {y : GenState} (h : s.gens[g]? = some y) : (mg G s).gens[g]? = some (pick G g y) := by
  show (mgA G s.gens)[g]? = _
  rw [mgA_get, h]
  rfl
theorem mg_seen {g : Nat} {y : GenState} (o : Ok G s) (h : s.gens[g]? = some y) : (pick G g y).seen = y.seen := by
  by_cases n : fixed G g
  · obtain ⟨x, h1, h2⟩ := n
    have e := o.fix g x h1 h2
    rw [h] at e
    cases e
    rw [pick_fix h1 h2, stuck_seen]
  · rw [pick_not n]
end
theorem runs_lift {M : Model} {G : Array GenState} {Γ : Ctx} {p : Pos} {t : Sem PySem.Fin} {fs : List Frame} {s s' : Shared} {e : End} (h : Runs M Γ p t fs s e s') :
    Ok G s → PlainF fs → Ok G s' ∧ PlainE e ∧ Runs M Γ p t fs (mg G s) e (mg G s') := by
  induction h with
  | done => exact fun o _ => ⟨o, trivial, .done⟩
  | raise => exact fun o _ => ⟨o, trivial, .raise⟩
  | again q _ ih => exact fun o f => let ⟨a, b, c⟩ := ih o f; ⟨a, b, .again q c⟩
  | rule _ ih => exact fun o f => let ⟨a, b, c⟩ := ih o f; ⟨a, b, .rule c⟩
  | «at» _ ih => exact fun o f => let ⟨a, b, c⟩ := ih o f; ⟨a, b, .at c⟩
  | load q _ ih => exact fun o f => let ⟨a, b, c⟩ := ih o f; ⟨a, b, .load q c⟩
  | update q _ ih => exact fun o f => let ⟨a, b, c⟩ := ih o.heap f; ⟨a, b, .update q c⟩
  | loadIfAlive _ ih => exact fun o f => let ⟨a, b, c⟩ := ih o f; ⟨a, b, .loadIfAlive c⟩
  | point _ ih => exact fun o f => let ⟨a, b, c⟩ := ih o f; ⟨a, b, .point c⟩
  | alloc _ ih => exact fun o f => let ⟨a, b, c⟩ := ih o.heap f; ⟨a, b, .alloc c⟩
  | fresh _ ih => exact fun o f => let ⟨a, b, c⟩ := ih ⟨o.fix, o.pl⟩ f; ⟨a, b, .fresh c⟩
  | ask _ ih => exact fun o f => let ⟨a, b, c⟩ := ih o f; ⟨a, b, .ask c⟩
  | choose q _ ih => exact fun o f => let ⟨a, b, c⟩ := ih ⟨o.fix, o.pl⟩ f; ⟨a, b, .choose q c⟩
  | os _ ih => exact fun o f => let ⟨a, b, c⟩ := ih ⟨o.fix, o.pl⟩ f; ⟨a, b, .os c⟩
  | handled _ ih => exact fun o f => let ⟨a, b, c⟩ := ih o f; ⟨a, b, .handled c⟩
  | genState q _ ih =>
    intro o f
    obtain ⟨a, b, c⟩ := ih o f
    refine ⟨a, b, .genState (mg_get q) ?_⟩
    rw [mg_seen o q]
    exact c
  | stack _ ih => exact fun o f => let ⟨a, b, c⟩ := ih o f; ⟨a, b, .stack c⟩
  | thread _ ih => exact fun o f => let ⟨a, b, c⟩ := ih o f; ⟨a, b, .thread c⟩
  | newGen _ ih =>
    intro o f
    obtain ⟨a, b, c⟩ := ih o.push f
    rw [mg_push o] at c
    refine ⟨a, b, .newGen ?_⟩
    rw [show (mg G _).gens.size = _ from mgA_size _ _]
    exact c
  | call _ _ ih1 ih2 =>
    intro o f
    obtain ⟨a, _, c⟩ := ih1 o plain_nil
    obtain ⟨a2, b2, c2⟩ := ih2 a f
    exact ⟨a2, b2, .call c c2⟩
  | callSusp _ ih =>
    intro o f
    obtain ⟨a, b, c⟩ := ih o plain_nil
    exact ⟨a, plain_app b fun x hx => by cases List.mem_singleton.mp hx; exact ⟨_, _, _, _, _, _, _, rfl⟩, .callSusp c⟩
  | «yield» => exact fun o _ => ⟨o, plain_nil, .yield⟩
  | resumeFresh q _ qt _ ih1 ih2 =>
    intro o f
    have n := o.not_fixed q rfl
    obtain ⟨a, b, c⟩ := ih1 (o.set n trivial) plain_nil
    obtain ⟨a2, b2, c2⟩ := ih2 (a.set n (plainE_gen b)) f
    rw [mg_set n] at c c2
    exact ⟨a2, b2, .resumeFresh (by rw [mg_get q, pick_not n]) c qt c2⟩
  | @resumeSuspended _ _ g r l k s k₀ l₀ c₀ p₀ fs cl e₁ s₁ e s' q r1 qt _ ih1 ih2 =>
    intro o f
    by_cases n : fixed G g
    · obtain ⟨x, h1, h2⟩ := n
      have e := o.fix _ x h1 h2
      rw [q] at e
      cases x with
      | suspended _ _ _ _ _ _ => cases e; exact (no_unsupp r1).elim
      | _ => cases h2
    · have pf := (o.pl _ _ q).resolve_left n
      obtain ⟨a, b, c⟩ := ih1 (o.set n trivial) pf
      obtain ⟨a2, b2, c2⟩ := ih2 (a.set n (plainE_gen b)) f
      rw [mg_set n] at c c2
      have q2 : (mg G s).gens[g]? = some (.suspended k₀ l₀ c₀ p₀ fs cl) := by rw [mg_get q, pick_not n]
      exact ⟨a2, b2, .resumeSuspended q2 c qt c2⟩
  | resumeJustStarted q v _ ih =>
    intro o f
    have n := o.not_fixed q rfl
    obtain ⟨a, b, c⟩ := ih o f
    have q2 := mg_get (G := G) q
    rw [pick_not n] at q2
    exact ⟨a, b, .resumeJustStarted q2 v c⟩
  | resumeThrowFresh q _ ih =>
    intro o f
    have n := o.not_fixed q rfl
    obtain ⟨a, b, c⟩ := ih (o.set n trivial) f
    rw [mg_set n] at c
    have q2 := mg_get (G := G) q
    rw [pick_not n] at q2
    exact ⟨a, b, .resumeThrowFresh q2 c⟩
  | resumeRunning q _ ih =>
    intro o f
    have n := o.not_fixed q rfl
    obtain ⟨a, b, c⟩ := ih o f
    have q2 := mg_get (G := G) q
    rw [pick_not n] at q2
    exact ⟨a, b, .resumeRunning q2 c⟩
  | resumeFinished q _ ih =>
    intro o f
    have n := o.not_fixed q rfl
    obtain ⟨a, b, c⟩ := ih o f
    have q2 := mg_get (G := G) q
    rw [pick_not n] at q2
    exact ⟨a, b, .resumeFinished q2 c⟩
  | segRet _ _ ih1 ih2 =>
    intro o f
    obtain ⟨a, _, c⟩ := ih1 o plain_nil
    obtain ⟨a2, b2, c2⟩ := ih2 a (plain_cons f)
    exact ⟨a2, b2, .segRet c c2⟩
  | segGen _ _ _ _ =>
    intro o f
    obtain ⟨_, _, _, _, _, _, _, e⟩ := f _ List.mem_cons_self
    cases e
  | segSuspOut q _ ih =>
    intro o f
    obtain ⟨a, b, c⟩ := ih o plain_nil
    exact ⟨a, plain_app b f, .segSuspOut q c⟩
  | segSuspGen q _ _ _ _ _ =>
    intro o f
    rw [plain_split f] at q
    cases q
theorem returns_lift {M : Model} {G : Array GenState} {Γ : Ctx} {p : Pos} {s s' : Shared} {r : Result} (h : Returns M Γ p s r s') (o : Ok G s) : Ok G s' ∧ Returns M Γ p (mg G s) r (mg G s') :=
  let ⟨a, _, c⟩ := runs_lift h o plain_nil
  ⟨a, c⟩
theorem wakes_lift {M : Model} {G : Array GenState} {Γ : Ctx} {p : Pos} {g : Nat} {r : Resume} {s s' : Shared} {res : GenResult} (h : Wakes M Γ p g r s res s') (o : Ok G s) : Ok G s' ∧ Wakes M Γ p g r (mg G s) res (mg G s') := by
  unfold Wakes at h ⊢
  cases q : s.gens[g]? with
  | none => rw [q] at h; exact h.elim
  | some y =>
    rw [q] at h
    rw [mg_get q]
    by_cases n : fixed G g
    · obtain ⟨x, h1, h2⟩ := n
      have e := o.fix _ x h1 h2
      rw [q] at e
      cases e
      cases x with
      | suspended k l c p fs cl =>
        obtain ⟨e₁, s₁, hr, _⟩ := h
        exact (no_unsupp hr).elim
      | _ => cases h2
    · rw [pick_not n]
      cases y with
      | fresh c =>
        cases r with
        | send v =>
          cases v with
          | none =>
            obtain ⟨e₁, s₁, hr, qt, e1, e2⟩ := h
            obtain ⟨a, b, c⟩ := runs_lift hr (o.set n trivial) plain_nil
            rw [mg_set n] at c
            subst e2
            exact ⟨a.set n (plainE_gen b), e₁, mg G s₁, c, qt, e1, mg_set n⟩
          | _ =>
            obtain ⟨e1, e2⟩ := h
            subst e2
            exact ⟨o, e1, rfl⟩
        | throw x =>
          obtain ⟨e1, e2⟩ := h
          subst e2
          exact ⟨o.set n trivial, e1, mg_set n⟩
      | suspended k l c p fs cl =>
        have pf := (o.pl _ _ q).resolve_left n
        obtain ⟨e₁, s₁, hr, qt, e1, e2⟩ := h
        obtain ⟨a, b, c⟩ := runs_lift hr (o.set n trivial) pf
        rw [mg_set n] at c
        subst e2
        exact ⟨a.set n (plainE_gen b), e₁, mg G s₁, c, qt, e1, mg_set n⟩
      | running =>
        obtain ⟨e1, e2⟩ := h
        subst e2
        exact ⟨o, e1, rfl⟩
      | finished =>
        obtain ⟨e1, e2⟩ := h
        subst e2
        exact ⟨o, e1, rfl⟩
theorem wp_lift {α : Type} (M : Model) (Γ : Ctx) (G : Array GenState) (t : Sem α) : ∀ (Q : α → Pos → Shared → Prop) (E : Value → Pos → Shared → Prop) (p : Pos) (s : Shared), Ok G s → wp M Γ t Q E p s →
    wp M Γ t (fun a p' s' => ∃ z, s' = mg G z ∧ Ok G z ∧ Q a p' z) (fun e p' s' => ∃ z, s' = mg G z ∧ Ok G z ∧ E e p' z) p (mg G s) := by
  induction t with
  | pure a => intro Q E p s o h; exact ⟨s, rfl, o, h⟩
  | raise e => intro Q E p s o h; exact ⟨s, rfl, o, h⟩
  | unsupported _ => intro Q E p s _ h; exact h
  | finish _ => intro Q E p s _ h; exact h
  | rule _ k ih => intro Q E p s o h; exact ih () Q E p s o h
  | «at» p' k ih => intro Q E p s o h; exact ih () Q E p' s o h
  | load a _ k ih => intro Q E p s o h; obtain ⟨ob, ho, h⟩ := h; exact ⟨ob, ho, ih ob Q E p s o h⟩
  | update a _ f k ih => intro Q E p s o h; exact ⟨h.1, ih () Q E p _ o.heap h.2⟩
  | loadIfAlive a k ih => intro Q E p s o h; exact ih _ Q E p s o h
  | point _ k ih => intro Q E p s o h; exact ih () Q E p s o h
  | register _ _ => intro Q E p s _ h; exact h
  | alloc ob k ih => intro Q E p s o h; exact ih _ Q E p _ o.heap h
  | fresh k ih => intro Q E p s o h; exact ih s.toks Q E p { s with toks := s.toks + 1 } (o.same rfl) h
  | ask k ih => intro Q E p s o h; exact ih _ Q E p s o h
  | choose src m k ih => intro Q E p s o h; exact ⟨h.1, ih (M.w.draws src (s.drawn.get src) % m) Q E p { s with drawn := s.drawn.bump src } (o.same rfl) h.2⟩
  | os q _ k ih => intro Q E p s o h; exact ih (Os.step s.os q).2 Q E p { s with os := (Os.step s.os q).1 } (o.same rfl) h
  | call c hd _ _ k ih =>
    intro Q E p s o h
    obtain ⟨r, s', hr, h⟩ := h
    obtain ⟨a, c⟩ := returns_lift hr o
    exact ⟨r, mg G s', c, ih r Q E p s' a h⟩
  | handled own k ih => intro Q E p s o h; exact ih _ Q E p s o h
  | genState g k ih =>
    intro Q E p s o h
    obtain ⟨st, hs, h⟩ := h
    refine ⟨pick G g st, mg_get hs, ?_⟩
    rw [mg_seen o hs]
    exact ih _ Q E p s o h
  | newGen c k ih =>
    intro Q E p s o h
    have z := ih _ Q E p _ o.push h
    rw [mg_push o] at z
    show wp M Γ (k (mg G s).gens.size) _ _ _ _
    rw [show (mg G s).gens.size = s.gens.size from mgA_size _ _]
    exact z
  | resume g r _ k ih =>
    intro Q E p s o h
    obtain ⟨res, s', hw, h⟩ := h
    obtain ⟨a, c⟩ := wakes_lift hw o
    exact ⟨res, mg G s', c, ih res Q E p s' a h⟩
  | yield _ _ _ _ => intro Q E p s _ h; exact h
  | stack k ih => intro Q E p s o h; exact ih _ Q E p s o h
  | fork _ _ => intro Q E p s _ h; exact h
  | thread k ih => intro Q E p s o h; exact ih _ Q E p s o h
  | await _ _ _ _ _ => intro Q E p s _ h; exact h
/-- the same state, its suspended generators stuck -/
def away (s : Shared) : Shared := { s with gens := s.gens.map stuck }
theorem mg_away (s : Shared) : mg s.gens (away s) = s := by
  show ({ s with gens := mgA s.gens (s.gens.map stuck) } : Shared) = s
  have e : mgA s.gens (s.gens.map stuck) = s.gens := by
    apply Array.ext_getElem?
    intro i
    rw [mgA_get, Array.getElem?_map]
    cases q : s.gens[i]? with
    | none => rfl
    | some x =>
      show some (pick s.gens i (stuck x)) = some x
      cases h : susp x with
      | true => rw [pick_fix q h]
      | false =>
        rw [pick_not, stuck_of h]
        rintro ⟨y, h1, h2⟩
        rw [q] at h1
        cases h1
        rw [h] at h2
        cases h2
  rw [e]
theorem ok_away (s : Shared) : Ok s.gens (away s) := by
  refine ⟨fun i x h1 h2 => ?_, fun i y hy => ?_⟩
  · show (s.gens.map stuck)[i]? = _
    rw [Array.getElem?_map, h1]
    rfl
  · have hy : (s.gens.map stuck)[i]? = some y := hy
    rw [Array.getElem?_map] at hy
    cases q : s.gens[i]? with
    | none => rw [q] at hy; cases hy
    | some x =>
      rw [q] at hy
      cases hy
      cases h : susp x with
      | true => exact .inl ⟨x, q, h⟩
      | false =>
        refine .inr ?_
        rw [stuck_of h]
        cases x <;> first | trivial | cases h
theorem away_bare {s : Shared} (h : AllBare s.gens) : AllBare (away s).gens := fun y hy => by
  have hy : y ∈ s.gens.map stuck := hy
  obtain ⟨x, hx, rfl⟩ := Array.mem_map.mp hy
  rw [stuck_bare]
  exact h x hx
theorem mg_bare {G : Array GenState} {z : Shared} (hG : AllBare G) (hz : AllBare z.gens) : AllBare (mg G z).gens := fun y hy => by
  obtain ⟨i, hi⟩ := Array.mem_iff_getElem?.mp hy
  have hi : (mgA G z.gens)[i]? = some y := hi
  rw [mgA_get] at hi
  cases q : z.gens[i]? with
  | none => rw [q] at hi; cases hi
  | some x =>
    rw [q] at hi
    cases hi
    unfold pick
    split
    · rename_i u hu
      split
      · exact hG u (Array.mem_of_getElem? hu)
      · exact hz x (Array.mem_of_getElem? q)
    · exact hz x (Array.mem_of_getElem? q)
/-- the suspended ones of a stand in b -/
def Sleeps (a b : Array GenState) : Prop := ∀ (g : Nat) (x : GenState), a[g]? = some x → susp x = true → b[g]? = some x
theorem mg_sleeps {G : Array GenState} {z : Shared} (o : Ok G z) : Sleeps G (mg G z).gens := fun g x h1 h2 => by
  rw [mg_get (o.fix g x h1 h2), pick_fix h1 h2]
theorem wpAny_asleep {α : Type} {M : Model} {A : Around} {t : Sem α} {Q : α → Shared → Prop} {E : Value → Shared → Prop} {s : Shared} (h : wpAny M A t Q E (away s)) :
    wpAny M A t (fun a s' => ∃ z, s' = mg s.gens z ∧ Ok s.gens z ∧ Q a z) (fun e s' => ∃ z, s' = mg s.gens z ∧ Ok s.gens z ∧ E e z) s := fun Γ p hΓ => by
  have z := wp_lift M Γ s.gens t _ _ p (away s) (ok_away s) (h Γ p hΓ)
  rw [mg_away] at z
  exact z
end GZ
/-! DY1: C() -/
namespace DL
open PySem PySem.Spec PyProof.Rows L2 Enc
section
variable {X : Cx} {W : WX} {cs : List Addr} {k : Nat} {sp : DSp} {g : Addr} {wf : DL.WE} {pos : Pos} {x : Str}
theorem d_mk0 {pn : Pos} {mkw : Addr → List Dd → MS → QD → XD → Prop} (bA : Bare bm X.A) (hr : Room (k + 1) X.A) (tk : Takes X W) (hc : ∀ C ∈ cs, Mk X.K C g) (F : FD bm X k g sp) (hw : ∀ C ds M Q E, mkw C ds M Q E → MkD C sp ds M Q E ∨ MkM C sp ds M Q E) (hf : PE X (.Name x pn) (low W wf)) :
    PE X (.Call (.Name x pn) [] [] pos) (low W (wMk mkw cs wf wNil)) := by
  refine ⟨fun pins s σ H Q I ⟨sl, Hf, M, Qd, Xd, rl, w, kq, kx⟩ => ?_⟩
  have L : low W wf σ H fun v H1 => ∃ C ∈ cs, v = .ref C ∧ ∃ Hf2 M2, Stp Hf M H Hf2 M2 H1 ∧ mkw C [] M2 Qd Xd := by
    refine ⟨sl, Hf, M, _, Xd, rl, w, fun d Hf1 M1 v H1 s1 r1 w1 => ?_, kx⟩
    obtain ⟨C, rfl, hC, w1⟩ := w1
    cases r1
    exact ⟨C, hC, rfl, Hf1, M1, s1, w1⟩
  refine wpAny_Call_Name_kw (thn (hf.run pins s σ H _ I L) fun u s1 ⟨v, H1, I1, rv, C, hC, ev, Hf2, M2, st, q2⟩ => ?_)
  subst ev
  obtain rfl : u = Value.ref C := rv
  refine PySem.W.callWith_K0 I1.kIn (hc C hC).kp ?_
  exact run_mk (us := []) (vs := []) (hc C hC) F bA hr (passAt tk σ) I1 .nil .nil st.wd (hw _ _ _ _ _ q2) (fun d Hf' M' v H' s' => kq d Hf' M' v H' (st.trans s')) (fun c Hf' M' H' s' => kx c Hf' M' H' (st.trans s'))
end
end DL
namespace My
open PySem PySem.Spec PyProof.Rows L2 DL Enc
def top (i : Nat) : Stmt := PySem.Challenge.pw_closestrule_k03_equal_lists.main.body.getD i (.Pass ⟨0, 0, 0, 0⟩)
def inn (i j : Nat) : Stmt := (C8.clsBody (top i)).getD j (.Pass ⟨0, 0, 0, 0⟩)
def freeN : List Str := ["all", "any", "len", "isinstance", "int", "bool", "tuple", "str", "list", "max", "min", "repr", "range", "enumerate", "sorted", "dict", "set", "zip"]
def oC (K : PySem.W.Frag) : List Addr := [He.ga K "Rules", He.ga K "Ordered"]
def isC (K : PySem.W.Frag) : List Addr := oC K
def ad_Listing___init__ (K : PySem.W.Frag) : Addr := He.ma K (He.ga K "Rules") "__init__"
def ad_Listing_read (K : PySem.W.Frag) : Addr := DL.recA "classmethod" K (He.ma K (He.ga K "Rules") "read")
def ad_Listing_text (K : PySem.W.Frag) : Addr := He.ma K (He.ga K "Rules") "text"
def ad_Listing_rules (K : PySem.W.Frag) : Addr := DL.recA "property" K (He.ma K (He.ga K "Rules") "rules")
def ad_Rules___eq__ (K : PySem.W.Frag) : Addr := He.ma K (He.ga K "Rules") "__eq__"
def ad_Ordered___eq__ (K : PySem.W.Frag) : Addr := He.ma K (He.ga K "Ordered") "__eq__"
structure Fx (K : PySem.W.Frag) (mg : Str → Option Value) : Prop where
  free : ∀ x, freeN.contains x = true → mg x = none
  c_MOST_RULES : ∃ t, mg "MOST_RULES" = some (.int 12 t)
  c_MOST_ATTRIBUTE : ∃ t, mg "MOST_ATTRIBUTE" = some (.int 4 t)
  c_MOST_VALUE : ∃ t, mg "MOST_VALUE" = some (.int 9 t)
  c_MOST_RESULT : ∃ t, mg "MOST_RESULT" = some (.int 99 t)
  c_DIGITS : ∃ t, mg "DIGITS" = some (.str "0123456789" t)
  g_Ordered : mg "Ordered" = some (.ref (He.ga K "Ordered"))
  g_Rules : mg "Rules" = some (.ref (He.ga K "Rules"))
  g_Listing : mg "Listing" = some (.ref (He.ga K "Listing"))
  x_NoRules : ExcK K mg "NoRules" (He.ga K "NoRules")
  x_NoText : ExcK K mg "NoText" (He.ga K "NoText")
  g_RuleError : mg "RuleError" = some (.ref (He.ga K "RuleError"))
  me_Listing_text : ∀ C ∈ oC K, Cls K C ∧ Meth K C "text" (ad_Listing_text K)
  kt_Rules : ∀ T ∈ oddK, PySem.W.kitOne K (.type T) (.ref (He.ga K "Rules")) = some false
  kt_Ordered : ∀ T ∈ oddK, PySem.W.kitOne K (.type T) (.ref (He.ga K "Ordered")) = some false
  ko_RO : PySem.W.kitOne K (.ref (He.ga K "Rules")) (.ref (He.ga K "Ordered")) = some false
  ko_OR : PySem.W.kitOne K (.ref (He.ga K "Ordered")) (.ref (He.ga K "Rules")) = some false
  ne_cls : He.ga K "Ordered" ≠ He.ga K "Rules"
  eqx_Rules : EqX K (oC K) (He.ga K "Rules") (ad_Rules___eq__ K)
  sup_Rules : ∀ T ∈ oddK, PySem.W.subIn K (.ref (He.ga K "Rules")) (.type T) = some false
  eqx_Ordered : EqX K (oC K) (He.ga K "Ordered") (ad_Ordered___eq__ K)
  sup_Ordered : ∀ T ∈ oddK, PySem.W.subIn K (.ref (He.ga K "Ordered")) (.type T) = some false
  isi : ∀ C ∈ isC K, IsiC K C
  k_OL : ∀ {ks : List Str} {xs : List Dd}, gIsi K (isC K) [.ins (He.ga K "Ordered") ks xs, .raw (.ref (He.ga K "Listing"))] = some (.bl true)
  k_RL : ∀ {ks : List Str} {xs : List Dd}, gIsi K (isC K) [.ins (He.ga K "Rules") ks xs, .raw (.ref (He.ga K "Listing"))] = some (.bl true)
  fl_kept : ∀ C ∈ oC K, Cls K C ∧ NoAttr K C "kept"
  mkA : ∀ C ∈ oC K, Mk K C (ad_Listing___init__ K)
  rd_Rules : ClX.CRead K (He.ga K "Rules") (.type "type")
  cm_Rules : ClX.CMet K (He.ga K "Rules") (.type "type") "read" (He.ma K (He.ga K "Rules") "read") (ad_Listing_read K)
  rd_Ordered : ClX.CRead K (He.ga K "Ordered") (.type "type")
  cm_Ordered : ClX.CMet K (He.ga K "Ordered") (.type "type") "read" (He.ma K (He.ga K "Rules") "read") (ad_Listing_read K)
  pr_rules : ∀ C ∈ oC K, Cls K C ∧ PropOf K C "rules" (He.ma K (He.ga K "Rules") "rules") (ad_Listing_rules K)
  d_is_between : DefOf K mg "is_between" (top 20)
  d_is_condition : DefOf K mg "is_condition" (top 21)
  d_is_case : DefOf K mg "is_case" (top 22)
  d_is_rule : DefOf K mg "is_rule" (top 23)
  d_are_rules : DefOf K mg "are_rules" (top 24)
  d_condition_of : DefOf K mg "condition_of" (top 26)
  d_result_of : DefOf K mg "result_of" (top 27)
  d_rule_of : DefOf K mg "rule_of" (top 28)
  d_line_of : DefOf K mg "line_of" (top 29)
  d_Listing___init__ : ∃ fd, FunD K "__init__" "Listing.__init__" (defArgs (inn 30 1)) (defBody (inn 30 1)) (defScope (inn 30 1)) [] [] (ad_Listing___init__ K) fd
  d_Listing_read : ∃ fd, FunD K "read" "Listing.read" (defArgs (inn 30 2)) (defBody (inn 30 2)) (defScope (inn 30 2)) [] [] (ad_Listing_read K) fd
  d_Listing_text : ∃ fd, FunD K "text" "Listing.text" (defArgs (inn 30 3)) (defBody (inn 30 3)) (defScope (inn 30 3)) [] [] (ad_Listing_text K) fd
  d_Listing_rules : ∃ fd, FunD K "rules" "Listing.rules" (defArgs (inn 30 4)) (defBody (inn 30 4)) (defScope (inn 30 4)) [] [] (ad_Listing_rules K) fd
  d_Rules___eq__ : ∃ fd, FunD K "__eq__" "Rules.__eq__" (defArgs (inn 31 4)) (defBody (inn 31 4)) (defScope (inn 31 4)) [] [] (ad_Rules___eq__ K) fd
  d_Ordered___eq__ : ∃ fd, FunD K "__eq__" "Ordered.__eq__" (defArgs (inn 32 3)) (defBody (inn 32 3)) (defScope (inn 32 3)) [] [] (ad_Ordered___eq__ K) fd
  d__law_cell : DefOf K mg "_law_cell" (top 38)
  d__law_source : DefOf K mg "_law_source" (top 39)
  d__law_draw : DefOf K mg "_law_draw" (top 40)
  d__law_choose : DefOf K mg "_law_choose" (top 41)
  d__law_is_equal : DefOf K mg "_law_is_equal" (top 42)
  d__law_case : DefOf K mg "_law_case" (top 43)
  d__law_part : DefOf K mg "_law_part" (top 44)
  d__law_some : DefOf K mg "_law_some" (top 45)
  d__law_text : DefOf K mg "_law_text" (top 46)
  d__law_near : DefOf K mg "_law_near" (top 47)
  d__law_is_right : DefOf K mg "_law_is_right" (top 48)
  d_law : DefOf K mg "law" (top 49)
section
variable {P : Program} {w : World} {K : PySem.W.Frag} {mg : Str → Option Value} {base : Heap}
def sp_is_between : DSp := fun ds M Q _ => ∃ t lo hi : Int, ds = [.int t, .int lo, .int hi] ∧ Q (.bl (betw lo hi t)) M
theorem sc_is_between : FnScope ["thing", "low", "high"] ["thing", "low", "high"] (defScope (top 20)) := ⟨rfl, rfl, rfl, by decide +kernel, rfl, by decide +kernel, by decide +kernel⟩
theorem ok_is_between (T : Fx K mg) : Fn bm P w K mg base "is_between" 3 1 sp_is_between := by
  have S := sc_is_between
  refine fn_top T.d_is_between S rfl (fun _ _ _ _ _ _ us hl => match us, hl with | [_, _, _], _ => rfl) ⟨_, fun cdv A outer s H E bA hr tk po => have hu := hu_ok hr; (ss_one (s_ret (d_and (d_isi (K := K) (cs := isC K) rfl T.isi rfl (T.free "isinstance" rfl) (a_cons (d_var 0) (a_cons (d_ty (n := "int") rfl (T.free "int" rfl) (by kernel_rfl)) a_nil))) (d_and (d_not (d_isi (K := K) (cs := isC K) rfl T.isi rfl (T.free "isinstance" rfl) (a_cons (d_var 0) (a_cons (d_ty (n := "bool") rfl (T.free "bool" rfl) (by kernel_rfl)) a_nil)))) (d_one (d_chain o_le o_le (d_var 1) (d_var 0) (d_var 2))))))), ?_⟩
  intro ds M Q E _ h
  obtain ⟨t, lo, hi, rfl, q⟩ := h
  refine ⟨_, rfl, _, rfl, _, rfl, ?_⟩
  refine ⟨_, rfl, _, rfl, _, rfl, _, rfl, ?_⟩
  refine ⟨_, rfl, _, rfl, _, rfl, ?_⟩
  unfold betw at q
  refine iff_c (fun h => ?_) (fun h => ?_)
  · rw [h, Bool.true_and] at q
    exact ⟨_, rfl, _, rfl, q⟩
  · rw [h, Bool.false_and] at q
    exact q
def sp_is_condition : DSp := fun ds M Q _ => ∃ c : Int × Int, ds = [enc c] ∧ Q (.bl (okC c)) M
theorem sc_is_condition : FnScope ["thing"] ["thing"] (defScope (top 21)) := ⟨rfl, rfl, rfl, by decide +kernel, rfl, by decide +kernel, by decide +kernel⟩
theorem ok_is_condition (T : Fx K mg) : Fn bm P w K mg base "is_condition" 1 2 sp_is_condition := by
  have S := sc_is_condition
  refine fn_top T.d_is_condition S rfl (fun _ _ _ _ _ _ us hl => match us, hl with | [_], _ => rfl) ⟨_, fun cdv A outer s H E bA hr tk po => have hu := hu_ok hr; (ss_cons (s_if (t_bool (w_or (t_not (t_val (d_isi (K := K) (cs := isC K) rfl T.isi rfl (T.free "isinstance" rfl) (a_cons (d_var 0) (a_cons (d_ty (n := "tuple") rfl (T.free "tuple" rfl) (by kernel_rfl)) a_nil))))) (w_or1 (t_cmp (o_ne hu) (d_callB (id := "len") c_len rfl (T.free "len" rfl) (by kernel_rfl) (a_cons (d_var 0) a_nil)) d_int (nomark _)))))
  (ss_one (s_ret d_bl))
  ss_nil)
  (ss_one (s_ret (d_and (d_call (ok_is_between T) bA (hr.mono (by decide)) tk rfl (a_cons (d_ix (d_var 0) d_int (fun _ _ => rfl)) (a_cons d_int (a_cons (d_gI rfl T.c_MOST_ATTRIBUTE) a_nil)))) (d_one (d_call (ok_is_between T) bA (hr.mono (by decide)) tk rfl (a_cons (d_ix (d_var 0) d_int (fun _ _ => rfl)) (a_cons d_int (a_cons (d_gI rfl T.c_MOST_VALUE) a_nil))))))))), ?_⟩
  intro ds M Q E _ h
  obtain ⟨c, rfl, q⟩ := h
  refine ⟨_, rfl, _, rfl, _, rfl, ?_⟩
  refine ⟨_, rfl, _, rfl, _, rfl, _, rfl, ?_⟩
  refine iff_f rfl ?_
  refine ⟨_, rfl, _, rfl, rfl, _, _, _, rfl, _, rfl, ?_⟩
  unfold okC at q
  refine iff_c (fun h => ?_) (fun h => ?_)
  · rw [h, Bool.true_and] at q
    exact ⟨_, rfl, _, rfl, rfl, _, _, _, rfl, q⟩
  · rw [h, Bool.false_and] at q
    exact q
def sp_is_case : DSp := fun ds M Q _ => ∃ c : Case, ds = [enc c] ∧ c.length ≤ 1000 ∧ Q (.bl (okCase c)) M
theorem sc_is_case : FnScope ["thing", "at", "part"] ["thing"] (defScope (top 22)) := ⟨rfl, rfl, rfl, by decide +kernel, rfl, by decide +kernel, by decide +kernel⟩
theorem ok_is_case (T : Fx K mg) : Fn bm P w K mg base "is_case" 1 3 sp_is_case := by
  have S := sc_is_case
  refine fn_top T.d_is_case S rfl (fun _ _ _ _ _ _ us hl => match us, hl with | [_], _ => rfl) ⟨_, fun cdv A outer s H E bA hr tk po => have hu := hu_ok hr; (ss_cons (s_if (t_bool (w_or (t_not (t_val (d_isi (K := K) (cs := isC K) rfl T.isi rfl (T.free "isinstance" rfl) (a_cons (d_var 0) (a_cons (d_ty (n := "tuple") rfl (T.free "tuple" rfl) (by kernel_rfl)) a_nil))))) (w_or1 (t_not (t_val (d_callB (id := "all") (c_all rfl) rfl (T.free "all" rfl) (by kernel_rfl) (a_cons (d_lc (own := [("part", 2)]) rfl S.nd (i_seq (d_var 0)) (blkOk_by rfl) (fun _ _ _ _ _ => (g_name (i := 2) S.nd rfl (by first | exact Or.inl rfl | exact Or.inr rfl))) (fun _ _ _ _ _ => ts_nil) (fun _ _ _ _ _ => (d_call (ok_is_condition T) bA (hr.mono (by decide)) tk0 rfl (a_cons (d_var 2) a_nil)))) a_nil)))))))
  (ss_one (s_ret d_bl))
  ss_nil)
  (ss_one (s_ret (d_callB (id := "all") (c_all rfl) rfl (T.free "all" rfl) (by kernel_rfl) (a_cons (d_lc (own := [("at", 1)]) rfl S.nd (i_range1 rfl (T.free "range" rfl) (a_cons (d_op o_sub (d_callB (id := "len") c_len rfl (T.free "len" rfl) (by kernel_rfl) (a_cons (d_var 0) a_nil)) d_int) a_nil)) (blkOk_by rfl) (fun _ _ _ _ _ => (g_name (i := 1) S.nd rfl (by first | exact Or.inl rfl | exact Or.inr rfl))) (fun _ _ _ _ _ => ts_nil) (fun _ _ _ _ _ => (d_cmp o_lt (d_ix (d_ix (d_var 0) (d_var 1) (fun _ _ => rfl)) d_int (fun _ _ => rfl)) (d_ix (d_ix (d_var 0) (d_op o_add (d_var 1) d_int) (fun _ _ => rfl)) d_int (fun _ _ => rfl)) (nomark _)))) a_nil))))), ?_⟩
  intro ds M Q E _ h
  obtain ⟨c, rfl, hl, q⟩ := h
  refine ⟨_, rfl, _, rfl, _, rfl, ?_⟩
  refine .inr ⟨_, rfl, _, rfl, ?_⟩
  refine lcGo_map (xs := c) (f := enc) (g := fun x => .bl (okC x)) (fun x hx F hF => ?_) (by omega) ?_
  · exact ⟨_, rfl, rfl, x, rfl, hF⟩
  refine ⟨_, bls_enc, _, rfl, ?_⟩
  unfold okCase at q
  refine iff_c (fun h => ?_) (fun h => ?_)
  · rw [Bool.not_eq_true'] at h
    rw [h, Bool.false_and] at q
    exact q
  rw [Bool.not_eq_false'] at h
  rw [h, Bool.true_and] at q
  have el : ((c.map enc).length : Int) = c.length := by rw [List.length_map]
  refine ⟨_, rfl, _, rfl, _, rfl, _, rfl, by rw [el]; omega, by rw [el]; omega, ?_⟩
  have en : ((((c.map enc).length : Int)) - 1).toNat = c.length - 1 := by rw [el]; omega
  rw [en]
  refine lcGo_map (xs := List.range (c.length - 1)) (f := fun (i : Nat) => Dd.int (0 + (i : Int))) (g := fun i => .bl (decide ((c.getD i (0, 0)).1 < (c.getD (i + 1) (0, 0)).1))) (fun i hi F hF => ?_) (by rw [List.length_range]; omega) ?_
  · rw [List.mem_range] at hi
    have h1 : c[(0 + (i : Int)).toNat]? = some (c.getD i (0, 0)) := by
      rw [show (0 + (i : Int)).toNat = i by omega, List.getElem?_eq_getElem (by omega), getDat (by omega)]
    have h2 : c[(0 + (i : Int) + 1).toNat]? = some (c.getD (i + 1) (0, 0)) := by
      rw [show (0 + (i : Int) + 1).toNat = i + 1 by omega, List.getElem?_eq_getElem (by omega), getDat (by omega)]
    exact ⟨_, rfl, _, rfl, _, atI_map (by omega) h1, _, rfl, _, rfl, _, rfl, _, rfl, _, atI_map (by omega) h2, _, rfl, _, rfl, hF⟩
  · exact ⟨_, bls_enc, q⟩
def sp_is_rule : DSp := fun ds M Q _ => ∃ r : Rule, ds = [enc r] ∧ r.1.length ≤ 1000 ∧ Q (.bl (okRule r)) M
theorem sc_is_rule : FnScope ["thing"] ["thing"] (defScope (top 23)) := ⟨rfl, rfl, rfl, by decide +kernel, rfl, by decide +kernel, by decide +kernel⟩
theorem ok_is_rule (T : Fx K mg) : Fn bm P w K mg base "is_rule" 1 4 sp_is_rule := by
  have S := sc_is_rule
  refine fn_top T.d_is_rule S rfl (fun _ _ _ _ _ _ us hl => match us, hl with | [_], _ => rfl) ⟨_, fun cdv A outer s H E bA hr tk po => have hu := hu_ok hr; (ss_cons (s_if (t_bool (w_or (t_not (t_val (d_isi (K := K) (cs := isC K) rfl T.isi rfl (T.free "isinstance" rfl) (a_cons (d_var 0) (a_cons (d_ty (n := "tuple") rfl (T.free "tuple" rfl) (by kernel_rfl)) a_nil))))) (w_or1 (t_cmp (o_ne hu) (d_callB (id := "len") c_len rfl (T.free "len" rfl) (by kernel_rfl) (a_cons (d_var 0) a_nil)) d_int (nomark _)))))
  (ss_one (s_ret d_bl))
  ss_nil)
  (ss_one (s_ret (d_and (d_call (ok_is_case T) bA (hr.mono (by decide)) tk rfl (a_cons (d_ix (d_var 0) d_int (fun _ _ => rfl)) a_nil)) (d_one (d_call (ok_is_between T) bA (hr.mono (by decide)) tk rfl (a_cons (d_ix (d_var 0) d_int (fun _ _ => rfl)) (a_cons d_int (a_cons (d_gI rfl T.c_MOST_RESULT) a_nil))))))))), ?_⟩
  intro ds M Q E _ h
  obtain ⟨r, rfl, hl, q⟩ := h
  refine ⟨_, rfl, _, rfl, _, rfl, ?_⟩
  refine ⟨_, rfl, _, rfl, _, rfl, _, rfl, ?_⟩
  refine iff_f rfl ?_
  refine ⟨_, rfl, _, rfl, rfl, r.1, rfl, hl, _, rfl, ?_⟩
  unfold okRule at q
  refine iff_c (fun h => ?_) (fun h => ?_)
  · rw [h, Bool.true_and] at q
    exact ⟨_, rfl, _, rfl, rfl, _, _, _, rfl, q⟩
  · rw [h, Bool.false_and] at q
    exact q
def sp_are_rules : DSp := fun ds M Q _ => ∃ (rs : List Rule) (d : Dd), ds = [d] ∧ (d = .tup (rs.map enc) ∨ d = .lst (rs.map enc)) ∧ rs.length ≤ 1000 ∧ (∀ r ∈ rs, r.1.length ≤ 1000) ∧ Q (.bl (okRules rs)) M
theorem sc_are_rules : FnScope ["things", "thing"] ["things"] (defScope (top 24)) := ⟨rfl, rfl, rfl, by decide +kernel, rfl, by decide +kernel, by decide +kernel⟩
theorem ok_are_rules (T : Fx K mg) : Fn bm P w K mg base "are_rules" 1 5 sp_are_rules := by
  have S := sc_are_rules
  refine fn_top T.d_are_rules S rfl (fun _ _ _ _ _ _ us hl => match us, hl with | [_], _ => rfl) ⟨_, fun cdv A outer s H E bA hr tk po => have hu := hu_ok hr; (ss_cons (s_if (t_bool (w_or (t_cmp o_gt (d_callB (id := "len") c_len rfl (T.free "len" rfl) (by kernel_rfl) (a_cons (d_var 0) a_nil)) (d_gI rfl T.c_MOST_RULES) (nomark _)) (w_or1 (t_not (t_val (d_callB (id := "all") (c_all rfl) rfl (T.free "all" rfl) (by kernel_rfl) (a_cons (d_lc (own := [("thing", 1)]) rfl S.nd (i_seq (d_var 0)) (blkOk_by rfl) (fun _ _ _ _ _ => (g_name (i := 1) S.nd rfl (by first | exact Or.inl rfl | exact Or.inr rfl))) (fun _ _ _ _ _ => ts_nil) (fun _ _ _ _ _ => (d_call (ok_is_rule T) bA (hr.mono (by decide)) tk0 rfl (a_cons (d_var 1) a_nil)))) a_nil)))))))
  (ss_one (s_ret d_bl))
  ss_nil)
  (ss_one (s_ret (d_callB (id := "all") (c_all rfl) rfl (T.free "all" rfl) (by kernel_rfl) (a_cons (d_lc (own := [("thing", 1)]) rfl S.nd (i_seq (d_var 0)) (blkOk_by rfl) (fun _ _ _ _ _ => (g_name (i := 1) S.nd rfl (by first | exact Or.inl rfl | exact Or.inr rfl))) (fun _ _ _ _ _ => ts_nil) (fun _ _ _ _ _ => (d_cmp (o_eq hu) (d_count hu (d_var 0) (d_var 1)) d_int (nomark _)))) a_nil))))), ?_⟩
  intro ds M Q E _ h
  obtain ⟨rs, d, rfl, hd, hl, hc, q⟩ := h
  have hx : der M d = .lst (rs.map enc) ∨ der M d = .tup (rs.map enc) := by
    rcases hd with rfl | rfl
    · exact .inr rfl
    · exact .inl rfl
  have hw : ∀ (Q' : List Dd → MS → Prop) (E' : XD), Q' (rs.map enc) M → wISq (wVar 0) [some d, none] M Q' E' := fun Q' E' hq => by
    rcases hd with rfl | rfl
    · exact .inr ⟨_, rfl, _, rfl, hq⟩
    · exact .inl ⟨_, rfl, _, rfl, hq⟩
  have e0 : gLen [der M d] = some (.int rs.length) := by
    rcases hx with e | e <;> rw [e] <;> simp [gLen]
  refine ⟨_, rfl, _, e0, _, rfl, _, rfl, ?_⟩
  unfold okRules at q
  refine iff_c (fun h => ?_) (fun h => ?_)
  · have : ¬ rs.length ≤ 12 := by have := of_decide_eq_true h; omega
    refine iff_t rfl ?_
    rw [decide_eq_false this, Bool.false_and, Bool.false_and] at q
    exact q
  have h12 : rs.length ≤ 12 := by have := of_decide_eq_false h; omega
  rw [decide_eq_true h12, Bool.true_and] at q
  refine hw _ _ ?_
  refine lcGo_map (xs := rs) (f := enc) (g := fun x => .bl (okRule x)) (fun x hx F hF => ?_) (by omega) ?_
  · exact ⟨_, rfl, rfl, x, rfl, hc x hx, hF⟩
  refine ⟨_, bls_enc, _, rfl, ?_⟩
  refine iff_c (fun h => ?_) (fun h => ?_)
  · rw [Bool.not_eq_true'] at h
    rw [h, Bool.false_and] at q
    exact q
  rw [Bool.not_eq_false'] at h
  rw [h, Bool.true_and] at q
  refine hw _ _ ?_
  refine lcGo_map (xs := rs) (f := enc) (g := fun r => .bl (decide (rs.countP (fun x => decide (x = r)) = 1))) (fun x hx F hF => ?_) (by omega) ?_
  · refine ⟨_, rfl, _, hd.symm, _, rfl, _, _, pyAll_enc rs, hp x, by have := dp x; exact Nat.le_trans this (by decide), _, rfl, ?_⟩
    have e1 : (rs.map pe).countP (fun y => PyData.eqv y (pe x)) = rs.countP (fun y => decide (y = x)) := by
      rw [List.countP_map]
      congr 1
      funext y
      rw [Bool.eq_iff_iff, decide_eq_true_eq]
      exact Enc.eqv y x
    rw [e1]
    refine Eq.mp (congrArg (fun z => F (Dd.bl z) M) ?_) hF
    rw [Bool.eq_iff_iff, decide_eq_true_eq]
    show _ ↔ ((_ : Int) == 1) = true
    rw [beq_iff_eq]
    omega
  · exact ⟨_, bls_enc, q⟩
def sp_condition_of : DSp := fun ds M Q _ => ∃ c : Int × Int, ds = [.str (condS c)] ∧ okC c = true ∧ Q (enc c) M
theorem sc_condition_of : FnScope ["word"] ["word"] (defScope (top 26)) := ⟨rfl, rfl, rfl, by decide +kernel, rfl, by decide +kernel, by decide +kernel⟩
theorem ok_condition_of (T : Fx K mg) : Fn bm P w K mg base "condition_of" 1 1 sp_condition_of := by
  have S := sc_condition_of
  refine fn_top T.d_condition_of S rfl (fun _ _ _ _ _ _ us hl => match us, hl with | [_], _ => rfl) ⟨_, fun cdv A outer s H E bA hr tk po => have hu := hu_ok hr; (ss_cons (s_if (t_bool (w_or (t_cmp (o_ne hu) (d_callB (id := "len") c_len rfl (T.free "len" rfl) (by kernel_rfl) (a_cons (d_var 0) a_nil)) d_int (nomark _)) (w_or (t_cmp (o_ne hu) (d_ix (d_var 0) d_int (fun _ _ => rfl)) d_str (nomark _)) (w_or (t_cmp (o_notIn hu) (d_ix (d_var 0) d_int (fun _ _ => rfl)) (d_gS rfl T.c_DIGITS) rfl) (w_or1 (t_cmp (o_notIn hu) (d_ix (d_var 0) d_int (fun _ _ => rfl)) (d_gS rfl T.c_DIGITS) rfl))))))
  (ss_one (s_ret (d_tup a_nil)))
  ss_nil)
  (ss_one (s_ret (d_tup (a_cons (d_callTy (T := "int") c_int rfl (T.free "int" rfl) (by kernel_rfl) (a_cons (d_ix (d_var 0) d_int (fun _ _ => rfl)) a_nil)) (a_cons (d_callTy (T := "int") c_int rfl (T.free "int" rfl) (by kernel_rfl) (a_cons (d_ix (d_var 0) d_int (fun _ _ => rfl)) a_nil)) a_nil)))))), ?_⟩
  intro ds M Q E _ h
  obtain ⟨c, rfl, ok, q⟩ := h
  obtain ⟨e, a10, b10, a0, b0⟩ := cond_tl ok
  generalize condS c = z at e
  obtain ⟨⟨zl⟩⟩ := z
  have ez : zl = [48 + c.1.toNat, 61, 48 + c.2.toNat] := e
  subst ez
  refine ⟨_, rfl, _, rfl, _, rfl, _, rfl, ?_⟩
  refine iff_f rfl ?_
  refine ⟨_, rfl, _, rfl, _, rfl, _, rfl, ?_⟩
  refine iff_f rfl ?_
  have i1 := dig_in ⟨c.1.toNat, a10⟩
  have i2 := dig_in ⟨c.2.toNat, b10⟩
  have j1 := dig_int ⟨c.1.toNat, a10⟩
  have j2 := dig_int ⟨c.2.toNat, b10⟩
  refine ⟨_, rfl, _, rfl, _, rfl, _, rfl, ?_⟩
  refine iff_f (by rw [decide_eq_true i1]; rfl) ?_
  refine ⟨_, rfl, _, rfl, _, rfl, _, rfl, ?_⟩
  refine iff_f (by rw [decide_eq_true i2]; rfl) ?_
  have ea : ((c.1.toNat : Nat) : Int) = c.1 := by omega
  have eb : ((c.2.toNat : Nat) : Int) = c.2 := by omega
  refine ⟨_, rfl, _, rfl, _, (by show (PySem.intText? _).map Dd.int = _; rw [j1]; rfl), ?_⟩
  refine ⟨_, rfl, _, rfl, _, (by show (PySem.intText? _).map Dd.int = _; rw [j2]; rfl), ?_⟩
  refine ⟨by simp, ?_⟩
  rw [ea, eb]
  exact q
def sp_result_of : DSp := fun ds M Q _ => ∃ r : Int, ds = [.str (resS r)] ∧ betw 0 99 r = true ∧ Q (.int r) M
theorem sc_result_of : FnScope ["word", "sign"] ["word"] (defScope (top 27)) := ⟨rfl, rfl, rfl, by decide +kernel, rfl, by decide +kernel, by decide +kernel⟩
theorem ok_result_of (T : Fx K mg) : Fn bm P w K mg base "result_of" 1 1 sp_result_of := by
  have S := sc_result_of
  refine fn_top T.d_result_of S rfl (fun _ _ _ _ _ _ us hl => match us, hl with | [_], _ => rfl) ⟨_, fun cdv A outer s H E bA hr tk po => have hu := hu_ok hr; (ss_cons (s_if (t_bool (w_or (t_not (t_chain o_le o_le d_int (d_callB (id := "len") c_len rfl (T.free "len" rfl) (by kernel_rfl) (a_cons (d_var 0) a_nil)) d_int)) (w_or (t_not (t_val (d_callB (id := "all") (c_all rfl) rfl (T.free "all" rfl) (by kernel_rfl) (a_cons (d_lc (own := [("sign", 1)]) rfl S.nd (i_str (d_var 0)) (blkOk_by rfl) (fun _ _ _ _ _ => (g_name (i := 1) S.nd rfl (by first | exact Or.inl rfl | exact Or.inr rfl))) (fun _ _ _ _ _ => ts_nil) (fun _ _ _ _ _ => (d_cmp (o_in hu) (d_var 1) (d_gS rfl T.c_DIGITS) rfl))) a_nil)))) (w_or1 (t_bool (w_and (t_cmp (o_eq hu) (d_callB (id := "len") c_len rfl (T.free "len" rfl) (by kernel_rfl) (a_cons (d_var 0) a_nil)) d_int (nomark _)) (w_and1 (t_cmp (o_eq hu) (d_ix (d_var 0) d_int (fun _ _ => rfl)) d_str (nomark _)))))))))
  (ss_one (s_ret (d_neg d_int)))
  ss_nil)
  (ss_one (s_ret (d_callTy (T := "int") c_int rfl (T.free "int" rfl) (by kernel_rfl) (a_cons (d_var 0) a_nil))))), ?_⟩
  intro ds M Q E _ h
  obtain ⟨r, rfl, ok, q⟩ := h
  have R := res_ok ok
  have hlen : (resS r).length = (TL.tl (resS r)).length := TL.len_tl _
  have hl := R.len
  have hle : (resS r).length ≤ 1000000 := by omega
  have e0 : gLen [.str (resS r)] = some (.int ((resS r).length : Nat)) := by simp only [gLen]; rw [if_pos hle]
  refine ⟨_, rfl, _, e0, _, rfl, ?_⟩
  refine iff_t (decide_eq_true (by omega)) ?_
  refine ⟨_, rfl, _, rfl, ?_⟩
  refine iff_f (by rw [decide_eq_true (show ((resS r).length : Int) ≤ 2 by omega)]; rfl) ?_
  refine ⟨_, rfl, _, rfl, ?_⟩
  show lcGo _ _ _ _ _ (signs (resS r)) [] M
  unfold DL.signs
  refine lcGo_map (xs := TL.tl (resS r)) (f := fun c => Dd.str ⟨#[c]⟩) (g := fun c => .bl (decide (c ∈ (Str.ofString "0123456789").cps.toList))) (fun c hc F hF => ?_) (by omega) ?_
  · exact ⟨_, rfl, _, rfl, hF⟩
  refine ⟨_, bls_enc, _, rfl, ?_⟩
  have ha : (TL.tl (resS r)).all (fun c => decide (c ∈ (Str.ofString "0123456789").cps.toList)) = true := List.all_eq_true.mpr fun c hc => decide_eq_true (R.ins c hc)
  refine iff_f (by rw [ha]; rfl) ?_
  have ev : gInt [.str (resS r)] = some (.int r) := by
    simp only [gInt]
    rw [if_pos (by omega), R.val]
    rfl
  have fin : (endsD Q E).rt (.int r) M := q
  refine ⟨_, rfl, _, e0, _, rfl, _, rfl, ?_⟩
  refine iff_c (fun h2 => ?_) (fun _ => iff_f rfl ⟨_, rfl, _, ev, q⟩)
  have h2 : (resS r).length = 2 := by
    have : (((resS r).length : Int) == 2) = true := h2
    rw [beq_iff_eq] at this
    omega
  have h3 := R.hd (by omega)
  obtain ⟨a, b, hab⟩ : ∃ a b, TL.tl (resS r) = [a, b] := by
    have : (TL.tl (resS r)).length = 2 := by omega
    match TL.tl (resS r), this with
    | [a, b], _ => exact ⟨a, b, rfl⟩
  have ei : gIx (.str (resS r)) (.int 0) = some (.str ⟨#[a]⟩) := by
    simp only [gIx]
    rw [if_pos (by omega)]
    show (atI (TL.tl (resS r)) 0).map _ = _
    rw [hab]
    rfl
  refine ⟨_, rfl, _, ei, _, rfl, _, rfl, ?_⟩
  refine iff_f ?_ ⟨_, rfl, _, ev, q⟩
  rw [hab] at h3
  have na : a ≠ 48 := fun z => h3 (by rw [z]; rfl)
  show ((⟨#[a]⟩ : Str) == Str.ofString "0") = false
  rw [beq_eq_false_iff_ne]
  intro z
  have z2 := congrArg (fun s : Str => s.cps.toList) z
  have z3 : (Str.ofString "0").cps.toList = [48] := by decide +kernel
  rw [z3] at z2
  simp at z2
  exact na z2
def sp_rule_of : DSp := fun ds M Q _ => ∃ r : Rule, ds = [.str (lineOf r)] ∧ okRule r = true ∧ Q (enc r) M
theorem sc_rule_of : FnScope ["line", "words", "word"] ["line"] (defScope (top 28)) := ⟨rfl, rfl, rfl, by decide +kernel, rfl, by decide +kernel, by decide +kernel⟩
theorem ok_rule_of (T : Fx K mg) : Fn bm P w K mg base "rule_of" 1 2 sp_rule_of := by
  have S := sc_rule_of
  refine fn_top T.d_rule_of S rfl (fun _ _ _ _ _ _ us hl => match us, hl with | [_], _ => rfl) ⟨_, fun cdv A outer s H E bA hr tk po => have hu := hu_ok hr; (ss_cons (s_set (i := 1) S.nd rfl (Or.inl rfl) (d_split (d_var 0) d_str))
  (ss_cons (s_if (t_bool (w_or (t_cmp o_lt (d_callB (id := "len") c_len rfl (T.free "len" rfl) (by kernel_rfl) (a_cons (d_var 1) a_nil)) d_int (nomark _)) (w_or1 (t_cmp (o_ne hu) (d_ix (d_var 1) (d_neg d_int) (fun _ _ => rfl)) d_str (nomark _)))))
  (ss_one (s_ret (d_tup a_nil)))
  ss_nil)
  (ss_one (s_ret (d_tup (a_cons (d_callTy (T := "tuple") c_tuple rfl (T.free "tuple" rfl) (by kernel_rfl) (a_cons (d_lc (own := [("word", 2)]) rfl S.nd (i_seq (d_slice (d_var 1) p_none (p_some (d_neg d_int)))) (blkOk_by rfl) (fun _ _ _ _ _ => (g_name (i := 2) S.nd rfl (by first | exact Or.inl rfl | exact Or.inr rfl))) (fun _ _ _ _ _ => ts_nil) (fun _ _ _ _ _ => (d_call (ok_condition_of T) bA (hr.mono (by decide)) tk0 rfl (a_cons (d_var 2) a_nil)))) a_nil)) (a_cons (d_call (ok_result_of T) bA (hr.mono (by decide)) tk rfl (a_cons (d_ix (d_var 1) (d_neg d_int) (fun _ _ => rfl)) a_nil)) a_nil))))))), ?_⟩
  intro ds M Q E _ h
  obtain ⟨r, rfl, ok, q⟩ := h
  have hs := split_line ok
  have hn : (lineOf r).length ≤ 1000000 := by
    rw [TL.len_tl]
    have := (line_no ok).2
    omega
  have es : gSplit (.str (lineOf r)) (.str (Str.ofString " ")) = some (.lst ((wordsOf r).map Dd.str)) := by
    simp only [gSplit]
    rw [hs, if_pos ⟨by decide +kernel, hn⟩]
  have ok2 := ok
  unfold okRule okCase at ok2
  simp only [Bool.and_eq_true, List.all_eq_true] at ok2
  obtain ⟨⟨oc, _⟩, orr⟩ := ok2
  have hl5 : r.1.length ≤ 5 := by
    unfold okRule at ok
    rw [Bool.and_eq_true] at ok
    exact upC_len ok.1
  have hw : (wordsOf r).length = r.1.length + 2 := by simp [DL.wordsOf]
  refine ⟨_, rfl, ⟨_, rfl⟩, _, es, ?_⟩
  have hm : (((wordsOf r).map Dd.str).length : Int) = r.1.length + 2 := by rw [List.length_map, hw]; omega
  refine ⟨_, rfl, _, rfl, _, rfl, _, rfl, ?_⟩
  refine iff_f (decide_eq_false (by rw [hm]; omega)) ?_
  have i2 : atI ((wordsOf r).map Dd.str) (-2) = some (.str (Str.ofString "gives")) := by
    unfold atI ixN
    rw [List.length_map, hw]
    rw [if_neg (by omega), if_pos (by omega)]
    rw [show (-2 + ((r.1.length + 2 : Nat) : Int)).toNat = r.1.length by omega]
    simp [DL.wordsOf]
  have i1 : atI ((wordsOf r).map Dd.str) (-1) = some (.str (resS r.2)) := by
    unfold atI ixN
    rw [List.length_map, hw]
    rw [if_neg (by omega), if_pos (by omega)]
    rw [show (-1 + ((r.1.length + 2 : Nat) : Int)).toNat = r.1.length + 1 by omega]
    simp [DL.wordsOf]
  refine ⟨_, rfl, _, rfl, _, i2, _, rfl, _, rfl, ?_⟩
  refine iff_f (by decide +kernel) ?_
  have hc : cutD ((wordsOf r).map Dd.str) none (some (-2)) = (r.1.map condS).map Dd.str := by
    unfold DL.cutD
    rw [List.length_map, hw]
    have e1 : HT.sIx (r.1.length + 2) 0 none = 0 := rfl
    have e2 : HT.sIx (r.1.length + 2) (r.1.length + 2) (some (-2)) = r.1.length := by
      unfold HT.sIx
      simp only []
      rw [if_pos (by decide)]
      omega
    rw [e1, e2]
    unfold DL.wordsOf
    simp
  refine .inl ⟨_, rfl, _, rfl, _, rfl, _, congrArg (fun z => some (Dd.lst z)) hc, _, rfl, ?_⟩
  rw [List.map_map]
  refine lcGo_map (xs := r.1) (f := Dd.str ∘ condS) (g := enc) (fun c hc F hF => ?_) (by omega) ?_
  · exact ⟨_, rfl, rfl, c, rfl, oc c hc, hF⟩
  refine ⟨_, rfl, ?_⟩
  refine ⟨_, rfl, _, rfl, _, i1, rfl, r.2, rfl, orr, ?_⟩
  exact ⟨by simp, q⟩
def sp_line_of : DSp := fun ds M Q _ => ∃ r : Rule, ds = [enc r] ∧ okRule r = true ∧ Q (.str (lineOf r ++ Str.ofString "\n")) M
theorem sc_line_of : FnScope ["rule", "attribute", "value"] ["rule"] (defScope (top 29)) := ⟨rfl, rfl, rfl, by decide +kernel, rfl, by decide +kernel, by decide +kernel⟩
theorem ok_line_of (T : Fx K mg) : Fn bm P w K mg base "line_of" 1 1 sp_line_of := by
  have S := sc_line_of
  refine fn_top T.d_line_of S rfl (fun _ _ _ _ _ _ us hl => match us, hl with | [_], _ => rfl) ⟨_, fun cdv A outer s H E bA hr tk po => have hu := hu_ok hr; (ss_one (s_ret (d_op o_add (d_join d_str (d_lc (own := [("attribute", 1), ("value", 2)]) rfl S.nd (i_seq (d_ix (d_var 0) d_int (fun _ _ => rfl))) (blkOk_by rfl) (fun _ _ _ _ _ => (g_tup rfl (gs_cons (g_name (i := 1) S.nd rfl (by first | exact Or.inl rfl | exact Or.inr rfl)) (gs_cons (g_name (i := 2) S.nd rfl (by first | exact Or.inl rfl | exact Or.inr rfl)) gs_nil)))) (fun _ _ _ _ _ => ts_nil) (fun _ _ _ _ _ => (d_joined (.cons (d_fmt (d_var 1)) (.cons d_str (.cons (d_fmt (d_var 2)) (.cons d_str .nil)))))))) (d_joined (.cons d_str (.cons (d_fmt (d_ix (d_var 0) d_int (fun _ _ => rfl))) (.cons d_str .nil))))))), ?_⟩
  intro ds M Q E _ h
  obtain ⟨z, rfl, ok, q⟩ := h
  have okz2 := ok
  unfold okRule at okz2
  rw [Bool.and_eq_true] at okz2
  have hl5 := upC_len okz2.1
  have hc := okz2.1
  unfold okCase at hc
  rw [Bool.and_eq_true, List.all_eq_true] at hc
  refine ⟨⟨_, rfl⟩, ?_⟩
  refine .inr ⟨_, rfl, _, rfl, _, rfl, ?_⟩
  refine lcGo_map (xs := z.1) (f := enc) (g := fun c => .str (condS c ++ Str.ofString " ")) (fun c hcm F hF => ?_) (by omega) ?_
  · obtain ⟨_, _, _, _, _⟩ := cond_tl (hc.1 c hcm)
    have hcs : (condS c).length ≤ 3 := by
      rw [TL.len_tl, (cond_tl (hc.1 c hcm)).1]
      simp
    have ls : (Str.ofString " ").length = 1 := by decide +kernel
    have l3 : (condS c ++ Str.ofString " ").length ≤ 1000000 := by rw [strLen_append]; omega
    have l2 : (condS c).length ≤ 1000000 := by omega
    have l1 : (Str.ofString (toString c.1) ++ Str.ofString "=").length ≤ 1000000 := by
      have h := l2
      unfold condS at h
      rw [strLen_append] at h
      omega
    have l0 : (Str.ofString (toString c.1)).length ≤ 1000000 := by
      rw [strLen_append] at l1
      omega
    have f1 : gFmt (.int c.1) = some (.str (Str.ofString (toString c.1))) := if_pos (by omega)
    have f2 : gFmt (.int c.2) = some (.str (Str.ofString (toString c.2))) := if_pos (by omega)
    refine ⟨_, rfl, rfl, ?_⟩
    refine ⟨_, rfl, _, f1, _, rfl, by rw [str_nil]; exact l0, _, rfl, by rw [str_nil]; exact l1, _, rfl, _, f2, _, rfl, by rw [str_nil]; exact l2, _, rfl, by rw [str_nil]; exact l3, ?_⟩
    rw [str_nil]
    exact hF
  have hr := okz2.2
  rw [betw_iff] at hr
  obtain ⟨A, a1, a2, a3, a4, a5⟩ := line_cat ok
  have f3 : gFmt (.int z.2) = some (.str (Str.ofString (toString z.2))) := if_pos (by omega)
  have lg : (Str.ofString "gives ").length = 6 := by decide +kernel
  have ln : (Str.ofString "\n").length = 1 := by decide +kernel
  have b1 : (Str.ofString "gives " ++ Str.ofString (toString z.2)).length ≤ 1000000 := by rw [strLen_append]; rw [strLen_append] at a3; omega
  have b2 : ((Str.ofString "gives " ++ Str.ofString (toString z.2)) ++ Str.ofString "\n").length ≤ 1000000 := by rw [strLen_append, strLen_append]; rw [strLen_append, strLen_append] at a4; omega
  refine ⟨_, a1, _, rfl, by rw [str_nil]; omega, _, rfl, _, rfl, _, f3, _, rfl, by rw [str_nil]; exact b1, _, rfl, by rw [str_nil]; exact b2, ?_⟩
  rw [str_nil]
  refine ⟨_, g_cat (by rw [strLen_append, strLen_append]; rw [strLen_append, strLen_append] at a4; omega), ?_⟩
  rw [← str_assoc, ← str_assoc, a5]
  exact q
def kept (C : Addr) (rs : List Rule) : Dd := .ins C ["kept"] [.tup (rs.map enc)]
def sp_init (K : PySem.W.Frag) : DSp := fun ds M Q _ => ∃ (p C : Addr) (rs : List Rule), ds = [.raw (.ref p), .tup (rs.map enc)] ∧ M p = some (.ins C [] []) ∧ C ∈ oC K ∧ rs.length ≤ 1000 ∧ (∀ r ∈ rs, r.1.length ≤ 1000) ∧ okRules rs = true ∧
  Q .non (updM M p (.ins C ["kept"] [.tup (rs.map enc)]))
theorem sc_Listing___init__ : FnScope ["self", "rules"] ((["self"] : List Str) ++ (["rules"] : List Str)) (defScope (inn 30 1)) := ⟨rfl, rfl, rfl, by decide +kernel, rfl, by decide +kernel, by decide +kernel⟩
def st_Listing___init__ (K : PySem.W.Frag) : DSp := fun ds M Q E => ∃ ws rest, ds = ws ++ rest ∧ ws.length = 1 ∧ rest.length ≤ 100000 ∧ sp_init K (ws ++ [.tup rest]) M Q E
theorem ok_Listing___init__ (T : Fx K mg) : FR bm P w K mg base 6 (ad_Listing___init__ K) (liftV (st_Listing___init__ K)) := by
  have S := sc_Listing___init__
  refine fr_defS (ps := ["self"]) (pv := "rules") T.d_Listing___init__ S rfl (fun _ _ _ _ _ _ us rest hl => match us, hl, rest with | [_], _, [] => rfl | [_], _, _ :: _ => rfl) ⟨_, fun cdv A outer s H E bA hr tk po => have hu := hu_ok hr; (ss_cons (s_if (t_not (t_val (d_call (ok_are_rules T) bA (hr.mono (by decide)) tk rfl (a_cons (d_var 1) a_nil))))
  (ss_one (s_raise rfl tk T.x_NoRules rfl))
  ss_nil)
  (ss_one (s_put (cs := oC K) T.fl_kept (d_var 0) (d_var 1)))), ?_⟩
  intro ds M Q E _ h
  obtain ⟨p, C, rs, rfl, hp, hC, hl, hc, ok, q⟩ := h
  refine ⟨_, rfl, rfl, rs, _, rfl, .inl rfl, hl, hc, _, rfl, ?_⟩
  refine iff_f (by rw [ok]; rfl) ?_
  exact ⟨_, rfl, _, rfl, p, C, [], [], rfl, hp, hC, by decide, q⟩
def sp_read (K : PySem.W.Frag) : DSp := fun ds M Q _ => ∃ (C : Addr) (rs : List Rule), ds = [.raw (.ref C), .str (textOf rs)] ∧ C ∈ oC K ∧ okRules rs = true ∧ Q (kept C rs) M
theorem sc_Listing_read : FnScope ["cls", "text", "found", "line"] ["cls", "text"] (defScope (inn 30 2)) := ⟨rfl, rfl, rfl, by decide +kernel, rfl, by decide +kernel, by decide +kernel⟩
theorem ok_Listing_read (T : Fx K mg) : FR bm P w K mg base 8 (ad_Listing_read K) (liftV (fun ds M Q E => ds.length = 2 ∧ sp_read K ds M Q E)) := by
  have S := sc_Listing_read
  refine fr_def T.d_Listing_read S rfl (fun _ _ _ _ _ _ us hl => match us, hl with | [_, _], _ => rfl) ⟨_, fun cdv A outer s H E bA hr tk po => have hu := hu_ok hr; (ss_cons (s_if (t_bool (w_or (t_not (t_val (d_isi (K := K) (cs := isC K) rfl T.isi rfl (T.free "isinstance" rfl) (a_cons (d_var 1) (a_cons (d_ty (n := "str") rfl (T.free "str" rfl) (by kernel_rfl)) a_nil))))) (w_or1 (t_bool (w_and (t_cmp (o_ne hu) (d_var 1) d_str (nomark _)) (w_and1 (t_not (t_val (d_endswith (d_var 1) d_str)))))))))
  (ss_one (s_raise rfl tk T.x_NoText rfl))
  ss_nil)
  (ss_cons (s_setLc (i := 2) (own := [("line", 3)]) rfl S.nd rfl rfl (by kernel_rfl) (i_seq (d_slice (d_split (d_var 1) d_str) p_none (p_some (d_neg d_int)))) (blkOk_by rfl) (fun _ _ _ _ _ => (g_name (i := 3) S.nd rfl (by first | exact Or.inl rfl | exact Or.inr rfl))) (fun _ _ _ _ _ => ts_nil) (fun _ _ _ _ _ => (d_call (ok_rule_of T) bA (hr.mono (by decide)) tk0 rfl (a_cons (d_var 3) a_nil))))
  (ss_cons (s_if (t_not (t_val (d_call (ok_are_rules T) bA (hr.mono (by decide)) tk rfl (a_cons (d_var 2) a_nil))))
  (ss_one (s_raise rfl tk T.x_NoText rfl))
  ss_nil)
  (ss_one (s_ret (d_mkS (cs := oC K) (mkw := fun C ds M Q E => MkD C (st_Listing___init__ K) ds M Q E) bA (hr.mono (by decide)) tk T.mkA (ok_Listing___init__ T) (fun _ _ _ _ _ h => .inl h) (d_var 0) (d_var 2))))))), ?_⟩
  intro ds M Q E _ h
  obtain ⟨C, rs, rfl, hC, ok, q⟩ := h
  have ok2 := ok
  unfold okRules at ok2
  simp only [Bool.and_eq_true, decide_eq_true_eq, List.all_eq_true] at ok2
  obtain ⟨⟨h12, hr⟩, _⟩ := ok2
  have hlen : ∀ r ∈ rs, r.1.length ≤ 1000 := fun r h => by
    have := hr r h
    unfold okRule at this
    rw [Bool.and_eq_true] at this
    have := upC_len this.1
    omega
  have ht := text_len hr h12
  refine ⟨_, rfl, _, rfl, _, rfl, ?_⟩
  refine iff_f rfl ?_
  refine and_go ?main ⟨!(textOf rs == Str.ofString ""), ?_, ?_⟩
  case main =>
    refine iff_f rfl ?_
    have es : gSplit (.str (textOf rs)) (.str (Str.ofString "\n")) = some (.lst ((rs.map lineOf ++ [Str.empty]).map Dd.str)) := by
      simp only [gSplit]
      rw [split_text hr, if_pos ⟨by decide +kernel, by omega⟩]
    have hc : DL.cutD ((rs.map lineOf ++ [Str.empty]).map Dd.str) none (some (-1)) = (rs.map lineOf).map Dd.str := by
      unfold DL.cutD
      have e0 : ((rs.map lineOf ++ [Str.empty]).map Dd.str).length = rs.length + 1 := by simp
      rw [e0]
      have e1 : HT.sIx (rs.length + 1) 0 none = 0 := rfl
      have e2 : HT.sIx (rs.length + 1) (rs.length + 1) (some (-1)) = rs.length := by
        unfold HT.sIx
        simp only []
        rw [if_pos (by decide)]
        omega
      rw [e1, e2, List.map_append]
      simp
    refine .inl ⟨_, rfl, ⟨_, rfl⟩, _, es, _, rfl, _, rfl, _, congrArg (fun z => some (Dd.lst z)) hc, _, rfl, ?_⟩
    rw [List.map_map]
    refine lcGo_map (xs := rs) (f := Dd.str ∘ lineOf) (g := enc) (fun r hm F hF => ?_) (by omega) ?_
    · exact ⟨_, rfl, rfl, r, rfl, hr r hm, hF⟩
    refine ⟨_, rfl, rfl, rs, _, rfl, .inr rfl, by omega, hlen, _, rfl, ?_⟩
    refine iff_f (by rw [ok]; rfl) ?_
    refine ⟨_, rfl, C, rfl, hC, _, rfl, _, .inl rfl, ?_⟩
    intro p hp
    refine ⟨[.raw (.ref p)], rs.map enc, rfl, rfl, by rw [List.length_map]; omega, p, C, rs, rfl, updM_same, hC, by omega, hlen, ok, rfl, _, updM_same, ?_⟩
    rw [updM_updM, delM_updM hp]
    exact q
  · intro G hG
    exact ⟨_, rfl, _, rfl, _, rfl, hG⟩
  · intro hb G hG
    have he : textOf rs ≠ Str.ofString "" := by
      rw [Bool.not_eq_true'] at hb
      exact beq_eq_false_iff_ne.mp hb
    refine ⟨_, rfl, ⟨_, rfl⟩, _, rfl, _, rfl, ?_⟩
    rw [text_ends he]
    exact hG
def sp_ltext (K : PySem.W.Frag) : DSp := fun ds M Q _ => ∃ (C : Addr) (rs : List Rule), ds = [kept C rs] ∧ C ∈ oC K ∧ rs.length ≤ 12 ∧ (∀ r ∈ rs, okRule r = true) ∧ Q (.str (textOf rs)) M
theorem sc_Listing_text : FnScope ["self", "rule"] ["self"] (defScope (inn 30 3)) := ⟨rfl, rfl, rfl, by decide +kernel, rfl, by decide +kernel, by decide +kernel⟩
theorem ok_Listing_text (T : Fx K mg) : FR bm P w K mg base 2 (ad_Listing_text K) (liftV (fun ds M Q E => ds.length = 1 ∧ sp_ltext K ds M Q E)) := by
  have S := sc_Listing_text
  refine fr_def T.d_Listing_text S rfl (fun _ _ _ _ _ _ us hl => match us, hl with | [_], _ => rfl) ⟨_, fun cdv A outer s H E bA hr tk po => have hu := hu_ok hr; (ss_one (s_ret (d_join d_str (d_lc (own := [("rule", 1)]) rfl S.nd (i_seq (d_fld (cs := oC K) T.fl_kept (d_var 0))) (blkOk_by rfl) (fun _ _ _ _ _ => (g_name (i := 1) S.nd rfl (by first | exact Or.inl rfl | exact Or.inr rfl))) (fun _ _ _ _ _ => ts_nil) (fun _ _ _ _ _ => (d_call (ok_line_of T) bA (hr.mono (by decide)) tk0 rfl (a_cons (d_var 1) a_nil))))))), ?_⟩
  intro ds M Q E _ h
  obtain ⟨C, rs, rfl, hC, h12, ok, q⟩ := h
  refine ⟨⟨_, rfl⟩, ?_⟩
  refine .inr ⟨_, rfl, C, _, _, _, rfl, hC, rfl, _, rfl, ?_⟩
  refine lcGo_map (xs := rs) (f := enc) (g := fun z => .str (lineOf z ++ Str.ofString "\n")) (fun z hz F hF => ?_) (by omega) ?_
  · exact ⟨_, rfl, rfl, z, rfl, ok z hz, hF⟩
  exact ⟨_, text_join ok h12, q⟩
def sp_rules (K : PySem.W.Frag) : DSp := fun ds M Q _ => ∃ (C : Addr) (rs : List Rule), ds = [kept C rs] ∧ C ∈ oC K ∧ Q (.tup (rs.map enc)) M
theorem sc_Listing_rules : FnScope ["self"] ["self"] (defScope (inn 30 4)) := ⟨rfl, rfl, rfl, by decide +kernel, rfl, by decide +kernel, by decide +kernel⟩
theorem ok_Listing_rules (T : Fx K mg) : FR bm P w K mg base 1 (ad_Listing_rules K) (liftV (fun ds M Q E => ds.length = 1 ∧ sp_rules K ds M Q E)) := by
  have S := sc_Listing_rules
  refine fr_def T.d_Listing_rules S rfl (fun _ _ _ _ _ _ us hl => match us, hl with | [_], _ => rfl) ⟨_, fun cdv A outer s H E bA hr tk po => have hu := hu_ok hr; (ss_one (s_ret (d_fld (cs := oC K) T.fl_kept (d_var 0)))), ?_⟩
  intro ds M Q E _ h
  obtain ⟨C, rs, rfl, hC, q⟩ := h
  exact ⟨_, rfl, C, _, _, _, rfl, hC, rfl, q⟩
def sp_eqRules (K : PySem.W.Frag) : DSp := fun ds M Q _ => ∃ (rs : List Rule) (d : Dd) (b : Bool), ds = [kept (He.ga K "Rules") rs, d] ∧ He.ga K "Rules" ∈ oC K ∧ gIsi K (isC K) [der M d, .raw (.ref (He.ga K "Rules"))] = some (.bl b) ∧
  (b = true → ∃ os : List Rule, d = kept (He.ga K "Rules") os ∧ ∀ k : Bool, (k = true ↔ rs.Perm os) → Q (.bl k) M) ∧ (b = false → Q (.bl false) M)
theorem sc_Rules___eq__ : FnScope ["self", "other"] ["self", "other"] (defScope (inn 31 4)) := ⟨rfl, rfl, rfl, by decide +kernel, rfl, by decide +kernel, by decide +kernel⟩
theorem ok_Rules___eq__ (T : Fx K mg) : FR bm P w K mg base 1 (ad_Rules___eq__ K) (liftV (fun ds M Q E => ds.length = 2 ∧ sp_eqRules K ds M Q E)) := by
  have S := sc_Rules___eq__
  refine fr_def T.d_Rules___eq__ S rfl (fun _ _ _ _ _ _ us hl => match us, hl with | [_, _], _ => rfl) ⟨_, fun cdv A outer s H E bA hr tk po => have hu := hu_ok hr; (ss_one (s_ret (d_and (d_isi (K := K) (cs := isC K) rfl T.isi rfl (T.free "isinstance" rfl) (a_cons (d_var 1) (a_cons (d_gC rfl T.g_Rules) a_nil))) (d_one (d_cmp (o_eq hu) (d_sort Rule hu rfl (T.free "sorted" rfl) (a_cons (d_fld (cs := oC K) T.fl_kept (d_var 0)) a_nil)) (d_sort Rule hu rfl (T.free "sorted" rfl) (a_cons (d_fld (cs := oC K) T.fl_kept (d_var 1)) a_nil)) (nomark _)))))), ?_⟩
  intro ds M Q E _ h
  obtain ⟨rs, d, b, rfl, hC, hb, q1, q2⟩ := h
  refine ⟨_, rfl, _, hb, _, rfl, ?_⟩
  refine iff_c (fun h => ?_) (fun h => q2 h)
  obtain ⟨os, rfl, q⟩ := q1 h
  refine ⟨_, rfl, _, _, _, _, rfl, hC, rfl, rs, rfl, fun o1 p1 s1 => ?_⟩
  refine ⟨_, rfl, _, _, _, _, rfl, hC, rfl, os, rfl, fun o2 p2 s2 => ?_⟩
  refine ⟨_, gEqB_lst (by decide) o1 o2, q _ ?_⟩
  rw [decide_eq_true_eq]
  constructor
  · intro e
    subst e
    exact p1.symm.trans p2
  · intro pm
    exact rules_sort pm p1 p2 s1 s2
def sp_eqOrdered (K : PySem.W.Frag) : DSp := fun ds M Q _ => ∃ (rs : List Rule) (d : Dd) (b : Bool), ds = [kept (He.ga K "Ordered") rs, d] ∧ He.ga K "Ordered" ∈ oC K ∧ gIsi K (isC K) [der M d, .raw (.ref (He.ga K "Ordered"))] = some (.bl b) ∧
  (b = true → ∃ os : List Rule, d = kept (He.ga K "Ordered") os ∧ ∀ k : Bool, (k = true ↔ rs = os) → Q (.bl k) M) ∧ (b = false → Q (.bl false) M)
theorem sc_Ordered___eq__ : FnScope ["self", "other"] ["self", "other"] (defScope (inn 32 3)) := ⟨rfl, rfl, rfl, by decide +kernel, rfl, by decide +kernel, by decide +kernel⟩
theorem ok_Ordered___eq__ (T : Fx K mg) : FR bm P w K mg base 1 (ad_Ordered___eq__ K) (liftV (fun ds M Q E => ds.length = 2 ∧ sp_eqOrdered K ds M Q E)) := by
  have S := sc_Ordered___eq__
  refine fr_def T.d_Ordered___eq__ S rfl (fun _ _ _ _ _ _ us hl => match us, hl with | [_, _], _ => rfl) ⟨_, fun cdv A outer s H E bA hr tk po => have hu := hu_ok hr; (ss_one (s_ret (d_and (d_isi (K := K) (cs := isC K) rfl T.isi rfl (T.free "isinstance" rfl) (a_cons (d_var 1) (a_cons (d_gC rfl T.g_Ordered) a_nil))) (d_one (d_cmp (o_eq hu) (d_fld (cs := oC K) T.fl_kept (d_var 0)) (d_fld (cs := oC K) T.fl_kept (d_var 1)) (nomark _)))))), ?_⟩
  intro ds M Q E _ h
  obtain ⟨rs, d, b, rfl, hC, hb, q1, q2⟩ := h
  refine ⟨_, rfl, _, hb, _, rfl, ?_⟩
  refine iff_c (fun h => ?_) (fun h => q2 h)
  obtain ⟨os, rfl, q⟩ := q1 h
  refine ⟨_, rfl, _, _, _, _, rfl, hC, rfl, ?_⟩
  refine ⟨_, rfl, _, _, _, _, rfl, hC, rfl, ?_⟩
  refine ⟨_, gEqB_enc (α := List Rule) (by decide) rs os, q _ ?_⟩
  rw [decide_eq_true_eq]
end
end My
namespace My
open PySem PySem.Spec PyProof.Rows L2 DL Enc
section
variable {P : Program} {w : World} {K : PySem.W.Frag} {mg : Str → Option Value} {base : Heap}
def sp_cell (K : PySem.W.Frag) : DSp := fun ds M Q _ => ∃ (ns : List Int) (i : Int), ds = [.scr K ns, .int i] ∧ 0 ≤ i ∧ ∀ n, Q (.int n) M
theorem sc__law_cell : FnScope ["_law_script", "_law_index"] ["_law_script", "_law_index"] (defScope (top 38)) := ⟨rfl, rfl, rfl, by decide +kernel, rfl, by decide +kernel, by decide +kernel⟩
theorem ok__law_cell (T : Fx K mg) : Fn bm P w K mg base "_law_cell" 2 1 (sp_cell K) := by
  have S := sc__law_cell
  refine fn_top T.d__law_cell S rfl (fun _ _ _ _ _ _ us hl => match us, hl with | [_, _], _ => rfl) ⟨_, fun cdv A outer s H E bA hr tk po => have hu := hu_ok hr; (ss_cons (s_if (t_cmp o_lt (d_var 1) (d_lenS (K := K) rfl rfl (T.free "len" rfl) (a_cons (d_var 0) a_nil)) (nomark _))
  (ss_one (s_ret (d_ixS (K := K) rfl (d_var 0) (d_var 1) (fun _ _ => rfl))))
  ss_nil)
  (ss_one (s_ret d_int))), ?_⟩
  intro ds M Q E _ h
  obtain ⟨ns, i, rfl, h0, q⟩ := h
  refine ⟨_, rfl, _, rfl, ns, rfl, _, rfl, _, rfl, ?_⟩
  refine iff_c (fun h => ?_) (fun _ => q 0)
  obtain ⟨n, hn⟩ := atI_of h0 (of_decide_eq_true h)
  exact ⟨_, rfl, _, rfl, ns, i, n, rfl, rfl, hn, q n⟩
def sp_source : DSp := fun ds M Q _ => ∃ n : Int, ds = [.int n] ∧ ∀ p M', M p = none → S3 M' p → Fr M M' → Q (.raw (.ref p)) M'
theorem sc__law_source : FnScope ["_law_cell_here"] ["_law_cell_here"] (defScope (top 39)) := ⟨rfl, rfl, rfl, by decide +kernel, rfl, by decide +kernel, by decide +kernel⟩
theorem ok__law_source (T : Fx K mg) : Fn bm P w K mg base "_law_source" 1 1 sp_source := by
  have S := sc__law_source
  refine fn_top T.d__law_source S rfl (fun _ _ _ _ _ _ us hl => match us, hl with | [_], _ => rfl) ⟨_, fun cdv A outer s H E bA hr tk po => have hu := hu_ok hr; (ss_one (s_ret (d_new (a_cons (d_callB (id := "max") (c_max2 rfl) rfl (T.free "max" rfl) (by kernel_rfl) (a_cons d_int (a_cons (d_op o_sub (d_var 0) (d_op o_pow d_int d_int)) a_nil))) (a_cons (d_op o_add (d_op o_mod (d_var 0) d_int) d_int) (a_cons d_int a_nil)))))), ?_⟩
  intro ds M Q E _ h
  obtain ⟨n, rfl, q⟩ := h
  refine ⟨_, rfl, _, g_pow (by decide), _, rfl, _, rfl, ?_⟩
  refine ⟨_, rfl, _, g_mod (by decide), _, rfl, ?_⟩
  refine ⟨by simp, fun p hp => ?_⟩
  exact q p _ hp ⟨_, _, _, updM_same⟩ (Fr.new hp)
def sp_draw : DSp := fun ds M Q _ => ∃ (p : Addr) (m : Int), ds = [.raw (.ref p), .int m] ∧ 0 < m ∧ m < 1073741824 ∧ S3 M p ∧ ∀ n M', 0 ≤ n → n < m → Sh p M M' → Q (.int n) M'
theorem sc__law_draw : FnScope ["_law_source_here", "_law_many", "_law_mixed", "_law_found"] ["_law_source_here", "_law_many"] (defScope (top 40)) := ⟨rfl, rfl, rfl, by decide +kernel, rfl, by decide +kernel, by decide +kernel⟩
theorem ok__law_draw (T : Fx K mg) : Fn bm P w K mg base "_law_draw" 2 1 sp_draw := by
  have S := sc__law_draw
  refine fn_top T.d__law_draw S rfl (fun _ _ _ _ _ _ us hl => match us, hl with | [_, _], _ => rfl) ⟨_, fun cdv A outer s H E bA hr tk po => have hu := hu_ok hr; (ss_cons (s_if (t_cmp o_gt (d_ix (d_var 0) d_int (fun _ _ => rfl)) d_int (nomark _))
  (ss_cons (s_set (i := 3) S.nd rfl (Or.inl rfl) (d_op o_mod (d_ix (d_var 0) d_int (fun _ _ => rfl)) (d_var 1)))
  (ss_cons (s_store (d_var 0) d_int (d_op o_div (d_ix (d_var 0) d_int (fun _ _ => rfl)) (d_var 1)))
  (ss_one (s_ret (d_var 3)))))
  ss_nil)
  (ss_cons (s_store (d_var 0) d_int (d_op o_add (d_ix (d_var 0) d_int (fun _ _ => rfl)) d_int))
  (ss_cons (s_store (d_var 0) d_int (d_op o_mod (d_op o_add (d_op o_add (d_op o_mul (d_ix (d_var 0) d_int (fun _ _ => rfl)) d_int) (d_op o_mul d_int (d_ix (d_var 0) d_int (fun _ _ => rfl)))) d_int) d_int))
  (ss_cons (s_set (i := 2) S.nd rfl (Or.inl rfl) (d_op o_mod (d_op o_add (d_op o_add (d_op o_mul (d_ix (d_var 0) d_int (fun _ _ => rfl)) (d_ix (d_var 0) d_int (fun _ _ => rfl))) (d_op o_mul d_int (d_ix (d_var 0) d_int (fun _ _ => rfl)))) d_int) d_int))
  (ss_cons (s_set (i := 2) S.nd rfl (Or.inl rfl) (d_op o_mod (d_op o_add (d_op o_mul (d_var 2) (d_var 2)) (d_op o_mul d_int (d_var 2))) d_int))
  (ss_one (s_ret (d_op o_mod (d_op o_div (d_var 2) d_int) (d_var 1))))))))), ?_⟩
  intro ds M Q E _ h
  obtain ⟨p, m, rfl, h1, h2, ⟨a, b, c, hp⟩, q⟩ := h
  have d0 := der_at hp
  have x0 : gIx (der M (.raw (.ref p))) (.int 0) = some (.int a) := by rw [d0]; rfl
  refine ⟨_, rfl, _, x0, _, rfl, _, rfl, ?_⟩
  refine iff_c (fun h => ?_) (fun _ => ?_)
  · refine ⟨_, rfl, _, x0, _, rfl, _, g_mod h1, ?_⟩
    refine ⟨_, rfl, _, x0, _, rfl, _, g_div ⟨h1, h2⟩, _, rfl, p, _, _, _, rfl, rfl, hp, rfl, ?_⟩
    exact ⟨_, rfl, q _ _ (Int.emod_nonneg _ (by omega)) (Int.emod_lt_of_pos _ h1) (Sh.src _ _ _)⟩
  have x2 : gIx (der M (.raw (.ref p))) (.int 2) = some (.int c) := by rw [d0]; rfl
  refine ⟨_, rfl, _, x2, _, rfl, _, rfl, p, _, _, _, rfl, rfl, hp, rfl, ?_⟩
  have hp1 : (updM M p (.lst [.int a, .int b, .int (c + 1)])) p = some (.lst [.int a, .int b, .int (c + 1)]) := updM_same
  have d1 := der_at hp1
  have y1 : gIx (der (updM M p (.lst [.int a, .int b, .int (c + 1)])) (.raw (.ref p))) (.int 1) = some (.int b) := by rw [d1]; rfl
  have y2 : gIx (der (updM M p (.lst [.int a, .int b, .int (c + 1)])) (.raw (.ref p))) (.int 2) = some (.int (c + 1)) := by rw [d1]; rfl
  refine ⟨_, rfl, _, y1, _, g_mul (.inr (by decide)), _, rfl, _, y2, _, g_mul (.inl (by decide)), _, rfl, _, rfl, _, g_mod (by decide), ?_⟩
  refine ⟨_, rfl, p, _, _, _, rfl, rfl, hp1, rfl, ?_⟩
  rw [updM_updM]
  generalize ey : (b * 48271 + 1009 * (c + 1) + 7) % 2147483647 = y
  have hy : 0 ≤ y ∧ y < 2147483647 := by omega
  have hp2 : (updM M p (.lst [.int a, .int y, .int (c + 1)])) p = some (.lst [.int a, .int y, .int (c + 1)]) := updM_same
  have d2 := der_at hp2
  have z1 : gIx (der (updM M p (.lst [.int a, .int y, .int (c + 1)])) (.raw (.ref p))) (.int 1) = some (.int y) := by rw [d2]; rfl
  refine ⟨_, rfl, _, z1, _, rfl, _, z1, _, g_mul (.inl (by omega)), _, rfl, _, z1, _, g_mul (.inl (by decide)), _, rfl, _, rfl, _, g_mod (by decide), ?_⟩
  generalize ez : (y * y + 69621 * y + 11) % 2147483629 = z
  have hz : 0 ≤ z ∧ z < 2147483629 := by
    rw [← ez]
    exact ⟨Int.emod_nonneg _ (by decide), Int.emod_lt_of_pos _ (by decide)⟩
  refine ⟨_, rfl, _, rfl, _, g_mul (.inl (by omega)), _, rfl, _, g_mul (.inl (by decide)), _, rfl, _, g_mod (by decide), ?_⟩
  refine ⟨_, rfl, _, g_div (by decide), _, rfl, _, g_mod h1, ?_⟩
  exact q _ _ (Int.emod_nonneg _ (by omega)) (Int.emod_lt_of_pos _ h1) (Sh.src _ _ _)
def sp_choose : DSp := fun ds M Q _ => ∃ (p : Addr) (v : Dd) (xs : List Dd), ds = [.raw (.ref p), v] ∧ S3 M p ∧ xs ≠ [] ∧ xs.length < 1000000 ∧ (∀ M', Sh p M M' → der M' v = .lst xs ∨ der M' v = .tup xs) ∧ ∀ x ∈ xs, ∀ M', Sh p M M' → Q x M'
theorem sc__law_choose : FnScope ["_law_source_here", "_law_values"] ["_law_source_here", "_law_values"] (defScope (top 41)) := ⟨rfl, rfl, rfl, by decide +kernel, rfl, by decide +kernel, by decide +kernel⟩
theorem ok__law_choose (T : Fx K mg) : Fn bm P w K mg base "_law_choose" 2 2 sp_choose := by
  have S := sc__law_choose
  refine fn_top T.d__law_choose S rfl (fun _ _ _ _ _ _ us hl => match us, hl with | [_, _], _ => rfl) ⟨_, fun cdv A outer s H E bA hr tk po => have hu := hu_ok hr; (ss_one (s_ret (d_ix (d_var 1) (d_call (ok__law_draw T) bA (hr.mono (by decide)) tk rfl (a_cons (d_var 0) (a_cons (d_callB (id := "len") c_len rfl (T.free "len" rfl) (by kernel_rfl) (a_cons (d_var 1) a_nil)) a_nil))) (fun _ _ => rfl)))), ?_⟩
  intro ds M Q E _ h
  obtain ⟨p, v, xs, rfl, s3, hne, hlt, hv, q⟩ := h
  have hl : gLen [der M v] = some (.int xs.length) := by
    rcases hv M (Sh.refl s3) with e | e <;> rw [e] <;> rfl
  have hpos : 0 < xs.length := List.length_pos_iff.mpr hne
  refine ⟨_, rfl, _, rfl, _, rfl, _, hl, rfl, p, _, rfl, by omega, by omega, s3, fun n M' h0 h1 sh => ?_⟩
  have hx : xs[n.toNat]? = some (xs[n.toNat]'(by omega)) := List.getElem?_eq_getElem (by omega)
  have hi : gIx (der M' v) (.int n) = some (xs[n.toNat]'(by omega)) := by
    rcases hv M' sh with e | e <;> (rw [e]; show atI xs n = _; simpa using atI_map (f := fun d => d) h0 hx)
  exact ⟨_, hi, q _ (List.getElem_mem _) M' sh⟩
def sp_is_equal : DSp := fun ds M Q _ => ∃ (x y : Dd) (z : Str), ds = [x, y] ∧ gRepr [der M x] = some (.str z) ∧ gRepr [der M y] = some (.str z) ∧ Q (.bl true) M
theorem sc__law_is_equal : FnScope ["_law_actual", "_law_expected"] ["_law_actual", "_law_expected"] (defScope (top 42)) := ⟨rfl, rfl, rfl, by decide +kernel, rfl, by decide +kernel, by decide +kernel⟩
theorem ok__law_is_equal (T : Fx K mg) : Fn true P w K mg base "_law_is_equal" 2 1 sp_is_equal := by
  have S := sc__law_is_equal
  refine fn_top T.d__law_is_equal S rfl (fun _ _ _ _ _ _ us hl => match us, hl with | [_, _], _ => rfl) ⟨_, fun cdv A outer s H E bA hr tk po => have hu := hu_ok hr; (ss_one (s_ret (d_cmp (o_eq hu) (d_callB (id := "repr") (c_repr (bA rfl) hu) rfl (T.free "repr" rfl) (by kernel_rfl) (a_cons (d_var 0) a_nil)) (d_callB (id := "repr") (c_repr (bA rfl) hu) rfl (T.free "repr" rfl) (by kernel_rfl) (a_cons (d_var 1) a_nil)) (nomark _)))), ?_⟩
  intro ds M Q E _ h
  obtain ⟨x, y, z, rfl, h1, h2, q⟩ := h
  refine ⟨_, rfl, _, h1, _, rfl, _, h2, _, rfl, ?_⟩
  have e : (z == z) = true := beq_self_eq_true z
  exact Eq.mp (congrArg (fun b => (endsD Q E).rt (Dd.bl b) M) e.symm) q
def sp_case : DSp := fun ds M Q _ => ∃ (p : Addr) (many most : Int), ds = [.raw (.ref p), .int many, .int most] ∧ S3 M p ∧ 0 < most ∧ most < 1073741824 ∧ ∀ (c : Case) M', Sh p M M' → InB most c → Up c → Q (enc c) M'
theorem sc__law_case : FnScope ["_law_source_here", "_law_many", "_law_most", "_law_found", "_law_attribute"] ["_law_source_here", "_law_many", "_law_most"] (defScope (top 43)) := ⟨rfl, rfl, rfl, by decide +kernel, rfl, by decide +kernel, by decide +kernel⟩
theorem ok__law_case (T : Fx K mg) : Fn bm P w K mg base "_law_case" 3 2 sp_case := by
  have S := sc__law_case
  refine fn_top T.d__law_case S rfl (fun _ _ _ _ _ _ us hl => match us, hl with | [_, _, _], _ => rfl) ⟨_, fun cdv A outer s H E bA hr tk po => have hu := hu_ok hr; (ss_cons (s_set (i := 3) S.nd rfl (Or.inl rfl) (d_new a_nil))
  (ss_cons (s_for po rfl (i_range1 rfl (T.free "range" rfl) (a_cons d_int a_nil)) (g_name (i := 4) S.nd rfl (Or.inl rfl))
  (ss_one (s_if (t_cmp o_lt (d_call (ok__law_draw T) bA (hr.mono (by decide)) tk rfl (a_cons (d_var 0) (a_cons d_int a_nil))) (d_var 1) (nomark _))
  (ss_one (s_expr (d_append (d_var 3) (d_tup (a_cons (d_var 4) (a_cons (d_call (ok__law_draw T) bA (hr.mono (by decide)) tk rfl (a_cons (d_var 0) (a_cons (d_var 2) a_nil))) a_nil))))))
  ss_nil)))
  (ss_one (s_ret (d_callTy (T := "tuple") c_tuple rfl (T.free "tuple" rfl) (by kernel_rfl) (a_cons (d_var 3) a_nil)))))), ?_⟩
  intro ds M Q E _ h
  obtain ⟨p, many, most, rfl, s3, h0, h1, q⟩ := h
  refine ⟨by decide, fun r hr => ?_⟩
  have ne : r ≠ p := s3.ne hr
  refine ⟨_, rfl, by decide, by decide, ?_⟩
  refine forGo_inv (I := fun ds sl M' => ∃ (k : Nat) (c : Case) (x : Option Dd), ds = rng (k : Int) (5 - k) ∧ k ≤ 5 ∧ sl = [some (.raw (.ref p)), some (.int many), some (.int most), some (.raw (.ref r)), x] ∧ Sh p M M' ∧ M' r = some (.lst (c.map enc)) ∧ c.length ≤ k ∧ Up c ∧ ∀ z ∈ c, 0 ≤ z.1 ∧ z.1 < k ∧ 0 ≤ z.2 ∧ z.2 < most) ?_
    ⟨0, [], none, rfl, by decide, rfl, (Sh.refl s3).new hr, updM_same, Nat.le_refl _, .nil, fun _ h => absurd h List.not_mem_nil⟩ ?_
  · rintro d ds sl M' N ⟨k, c, x, e, hk, rfl, sh, hm, hl, up, hb⟩ kn
    have hk5 : k < 5 := by
      by_cases z : k < 5
      · exact z
      · rw [show 5 - k = 0 by omega] at e
        cases e
    rw [show 5 - k = (5 - (k + 1)) + 1 by omega] at e
    obtain ⟨rfl, rfl⟩ := rng_cons e
    have kn' : ∀ sl' M2 c2, sl' = [some (.raw (.ref p)), some (.int many), some (.int most), some (.raw (.ref r)), some (.int (k : Int))] → Sh p M M2 → M2 r = some (.lst (List.map enc c2)) → c2.length ≤ k + 1 → Up c2 → (∀ z ∈ c2, 0 ≤ z.1 ∧ z.1 < ((k + 1 : Nat) : Int) ∧ 0 ≤ z.2 ∧ z.2 < most) → N sl' M2 := fun sl' M2 c2 e1 e2 e3 e4 e5 e6 =>
      kn sl' M2 ⟨k + 1, c2, _, by push_cast; rfl, by omega, e1, e2, e3, e4, e5, e6⟩
    refine ⟨_, rfl, rfl, p, 5, rfl, by decide, by decide, sh.1, fun n M2 n0 n1 sh2 => ?_⟩
    have hm2 : M2 r = some (.lst (c.map enc)) := sh2.2 r _ ne hm
    refine ⟨_, rfl, _, rfl, _, rfl, ?_⟩
    refine iff_c (fun _ => ?_) (fun _ => ?_)
    · refine ⟨_, rfl, r, _, rfl, hm2, _, rfl, _, rfl, _, rfl, rfl, p, most, rfl, h0, h1, (sh.trans sh2).1, fun v M3 v0 v1 sh3 => ?_⟩
      have hm3 : M3 r = some (.lst (c.map enc)) := sh3.2 r _ ne hm2
      refine ⟨by simp, _, hm3, by rw [List.length_map]; omega, ?_⟩
      refine kn' _ _ (c ++ [((k : Int), v)]) rfl (((sh.trans sh2).trans sh3).upd hr ne) (by rw [updM_same, List.map_append]; rfl) (by simp; omega) ?_ ?_
      · refine List.pairwise_append.mpr ⟨up, List.pairwise_singleton _ _, fun a ha b hb' => ?_⟩
        rw [List.mem_singleton.mp hb']
        exact (hb a ha).2.1
      · intro z hz
        rw [List.mem_append, List.mem_singleton] at hz
        rcases hz with hz | rfl
        · have := hb z hz; omega
        · exact ⟨by omega, by push_cast; omega, v0, v1⟩
    · refine kn' _ _ c rfl (sh.trans sh2) hm2 (by omega) up fun z hz => ?_
      have := hb z hz
      omega
  · rintro sl M' ⟨k, c, x, e, hk, rfl, sh, hm, hl, up, hb⟩
    have ek : k = 5 := by
      have := congrArg List.length e
      rw [rng_length] at this
      simp at this
      omega
    subst ek
    refine ⟨_, rfl, _, (by rw [show List.map (der M') [Dd.raw (.ref r)] = [der M' (.raw (.ref r))] from rfl, der_at hm]; rfl), ?_⟩
    exact q c M' sh (fun z hz => by have := hb z hz; omega) up
def sp_part : DSp := fun ds M Q _ => ∃ (p : Addr) (c : Case), ds = [.raw (.ref p), enc c] ∧ S3 M p ∧ c.length ≤ 1000 ∧ ∀ (c' : Case) M', c'.Sublist c → Sh p M M' → Q (enc c') M'
theorem sc__law_part : FnScope ["_law_source_here", "_law_case_here", "_law_part_here"] ["_law_source_here", "_law_case_here"] (defScope (top 44)) := ⟨rfl, rfl, rfl, by decide +kernel, rfl, by decide +kernel, by decide +kernel⟩
theorem ok__law_part (T : Fx K mg) : Fn bm P w K mg base "_law_part" 2 2 sp_part := by
  have S := sc__law_part
  refine fn_top T.d__law_part S rfl (fun _ _ _ _ _ _ us hl => match us, hl with | [_, _], _ => rfl) ⟨_, fun cdv A outer s H E bA hr tk po => have hu := hu_ok hr; (ss_one (s_ret (d_callTy (T := "tuple") c_tuple rfl (T.free "tuple" rfl) (by kernel_rfl) (a_cons (d_lc (own := [("_law_part_here", 2)]) rfl S.nd (i_seq (d_var 1)) (blkOk_by rfl) (fun _ _ _ _ _ => (g_name (i := 2) S.nd rfl (by first | exact Or.inl rfl | exact Or.inr rfl))) (fun _ _ _ _ _ => (ts_one (t_cmp (o_eq hu) (d_call (ok__law_draw T) bA (hr.mono (by decide)) tk0 rfl (a_cons (d_var 0) (a_cons d_int a_nil))) d_int (nomark _)))) (fun _ _ _ _ _ => (d_var 2))) a_nil)))), ?_⟩
  intro ds M Q E _ h
  obtain ⟨p, c, rfl, s3, hl, q⟩ := h
  refine .inr ⟨_, rfl, _, rfl, ?_⟩
  refine lcGo_run (I := fun ds acc M' => ∃ c1 c2 c3 : Case, c = c1 ++ c2 ∧ ds = c2.map enc ∧ acc = c3.map enc ∧ c3.Sublist c1 ∧ Sh p M M') ?_ (by simp; omega) ⟨[], c, [], rfl, rfl, rfl, .slnil, Sh.refl s3⟩ ?_
  · rintro d ds acc M' F G ⟨c1, c2, c3, e, e2, rfl, sb, sh⟩ hF hG
    cases c2 with
    | nil => cases e2
    | cons x c2 =>
      simp only [List.map_cons, List.cons.injEq] at e2
      obtain ⟨rfl, rfl⟩ := e2
      refine ⟨_, rfl, rfl, p, 2, rfl, by decide, by decide, sh.1, fun n M2 n0 n1 sh2 => ?_⟩
      refine ⟨_, rfl, _, rfl, ?_⟩
      refine iff_c (fun _ => ?_) (fun _ => ?_)
      · refine ⟨_, rfl, hF _ _ ⟨c1 ++ [x], c2, c3 ++ [x], by simp [e], rfl, by simp, sb.append (.refl _), sh.trans sh2⟩⟩
      · refine hG _ ⟨c1 ++ [x], c2, c3, by simp [e], rfl, rfl, sb.trans (List.sublist_append_left _ _), sh.trans sh2⟩
  · rintro acc M' ⟨c1, c2, c3, e, e2, rfl, sb, sh⟩
    cases c2 with
    | cons x c2 => cases e2
    | nil =>
      rw [List.append_nil] at e
      subst e
      exact ⟨_, rfl, q c3 M' sb sh⟩
def sp_some : DSp := fun ds M Q _ => ∃ (p : Addr) (most : Int), ds = [.raw (.ref p), .int most] ∧ S3 M p ∧ 0 ≤ most ∧ most ≤ 12 ∧ ∀ (rs : List Rule) M', Sh p M M' → rs.length ≤ most.toNat → rs.Nodup → (∀ z ∈ rs, GoodR 3 3 z) → Q (.lst (rs.map enc)) M'
theorem sc__law_some : FnScope ["_law_source_here", "_law_most", "_law_turn", "_law_found", "_law_many", "_law_value", "_law_rule", "_law_case_here", "_law_way", "_law_old", "_law_names", "_law_attribute", "_law_kept", "_law_part_here"] ["_law_source_here", "_law_most"] (defScope (top 45)) := ⟨rfl, rfl, rfl, by decide +kernel, rfl, by decide +kernel, by decide +kernel⟩
theorem ok__law_some (T : Fx K mg) : Fn bm P w K mg base "_law_some" 2 3 sp_some := by
  have S := sc__law_some
  refine fn_top T.d__law_some S rfl (fun _ _ _ _ _ _ us hl => match us, hl with | [_, _], _ => rfl) ⟨_, fun cdv A outer s H E bA hr tk po => have hu := hu_ok hr; (ss_cons (s_par3 (i := 3) (j := 4) (l := 5) rfl S.nd rfl rfl rfl (by decide) (by decide) (by decide) rfl rfl rfl (a_cons (d_new a_nil) (a_cons (d_call (ok__law_draw T) bA (hr.mono (by decide)) tk rfl (a_cons (d_var 0) (a_cons (d_op o_add (d_var 1) d_int) a_nil))) (a_cons (d_op o_add d_int (d_call (ok__law_draw T) bA (hr.mono (by decide)) tk rfl (a_cons (d_var 0) (a_cons d_int a_nil)))) a_nil))) (by kernel_rfl))
  (ss_cons (s_for po rfl (i_range1 rfl (T.free "range" rfl) (a_cons (d_var 4) a_nil)) (g_name (i := 2) S.nd rfl (Or.inl rfl))
  (ss_cons (s_par (i := 7) (j := 8) rfl S.nd rfl rfl (by decide) rfl rfl (a_cons (d_call (ok__law_case T) bA (hr.mono (by decide)) tk rfl (a_cons (d_var 0) (a_cons (d_op o_add d_int (d_call (ok__law_draw T) bA (hr.mono (by decide)) tk rfl (a_cons (d_var 0) (a_cons d_int a_nil)))) (a_cons (d_var 5) a_nil)))) (a_cons (d_call (ok__law_draw T) bA (hr.mono (by decide)) tk rfl (a_cons (d_var 0) (a_cons d_int a_nil))) a_nil)) (by kernel_rfl))
  (ss_cons (s_if (t_bool (w_and (t_cmp (o_ne hu) (d_var 3) (d_lst a_nil) (nomark _)) (w_and1 (t_cmp o_lt (d_var 8) d_int (nomark _)))))
  (ss_one (s_set (i := 7) S.nd rfl (Or.inl rfl) (d_call (ok__law_part T) bA (hr.mono (by decide)) tk rfl (a_cons (d_var 0) (a_cons (d_ix (d_call (ok__law_choose T) bA (hr.mono (by decide)) tk rfl (a_cons (d_var 0) (a_cons (d_var 3) a_nil))) d_int (fun _ _ => rfl)) a_nil)))))
  ss_nil)
  (ss_cons (s_if (t_bool (w_and (t_cmp (o_ne hu) (d_var 3) (d_lst a_nil) (nomark _)) (w_and1 (t_cmp (o_eq hu) (d_var 8) d_int (nomark _)))))
  (ss_cons (s_set (i := 9) S.nd rfl (Or.inl rfl) (d_ix (d_call (ok__law_choose T) bA (hr.mono (by decide)) tk rfl (a_cons (d_var 0) (a_cons (d_var 3) a_nil))) d_int (fun _ _ => rfl)))
  (ss_cons (s_set (i := 10) S.nd rfl (Or.inr rfl) (d_lc (own := [("_law_attribute", 11), ("_law_kept", 12)]) rfl S.nd (i_seq (d_var 9)) (blkOk_by rfl) (fun _ _ _ _ _ => (g_tup rfl (gs_cons (g_name (i := 11) S.nd rfl (by first | exact Or.inl rfl | exact Or.inr rfl)) (gs_cons (g_name (i := 12) S.nd rfl (by first | exact Or.inl rfl | exact Or.inr rfl)) gs_nil)))) (fun _ _ _ _ _ => ts_nil) (fun _ _ _ _ _ => (d_var 11))))
  (ss_one (s_set (i := 7) S.nd rfl (Or.inl rfl) (d_callTy (T := "tuple") c_tuple rfl (T.free "tuple" rfl) (by kernel_rfl) (a_cons (d_sort (Int × Int) hu rfl (T.free "sorted" rfl) (a_cons (d_op o_add (d_callTy (T := "list") c_list rfl (T.free "list" rfl) (by kernel_rfl) (a_cons (d_var 9) a_nil)) (d_lc (own := [("_law_part_here", 13)]) rfl S.nd (i_seq (d_var 7)) (blkOk_by rfl) (fun _ _ _ _ _ => (g_name (i := 13) S.nd rfl (by first | exact Or.inl rfl | exact Or.inr rfl))) (fun _ _ _ _ _ => (ts_one (t_cmp (o_notIn hu) (d_ix (d_var 13) d_int (fun _ _ => rfl)) (d_var 10) rfl))) (fun _ _ _ _ _ => (d_var 13)))) a_nil)) a_nil))))))
  ss_nil)
  (ss_cons (s_if (t_bool (w_and (t_cmp (o_ne hu) (d_var 3) (d_lst a_nil) (nomark _)) (w_and1 (t_cmp (o_eq hu) (d_var 8) d_int (nomark _)))))
  (ss_one (s_set (i := 7) S.nd rfl (Or.inl rfl) (d_ix (d_call (ok__law_choose T) bA (hr.mono (by decide)) tk rfl (a_cons (d_var 0) (a_cons (d_var 3) a_nil))) d_int (fun _ _ => rfl))))
  ss_nil)
  (ss_cons (s_set (i := 6) S.nd rfl (Or.inl rfl) (d_tup (a_cons (d_var 7) (a_cons (d_call (ok__law_draw T) bA (hr.mono (by decide)) tk rfl (a_cons (d_var 0) (a_cons d_int a_nil))) a_nil))))
  (ss_one (s_if (t_cmp (o_notIn hu) (d_var 6) (d_var 3) rfl)
  (ss_one (s_expr (d_append (d_var 3) (d_var 6))))
  ss_nil))))))))
  (ss_one (s_ret (d_frz (d_var 3)))))), ?_⟩
  intro ds M Q E _ h
  obtain ⟨p, most, rfl, s3, h0, h1, q⟩ := h
  refine ⟨by decide, fun r hr => ?_⟩
  have ne := s3.ne hr
  have sh0 : Sh p M (updM M r (.lst [])) := (Sh.refl s3).new hr
  refine ⟨_, rfl, _, rfl, _, rfl, rfl, p, most + 1, rfl, by omega, by omega, sh0.1, fun many M1 m0 m1 sh1 => ?_⟩
  refine ⟨_, rfl, rfl, p, 3, rfl, by decide, by decide, (sh0.trans sh1).1, fun v M2 v0 v1 sh2 => ?_⟩
  refine ⟨_, rfl, _, _, _, rfl, ?_⟩
  refine ⟨_, rfl, _, rfl, by omega, by omega, ?_⟩
  refine forGo_inv (I := fun ds sl M' => ∃ (rs : List Rule) (x2 x6 x7 x8 x9 x10 x11 x12 x13 : Option Dd), sl = [some (.raw (.ref p)), some (.int most), x2, some (.raw (.ref r)), some (.int many), some (.int (1 + v)), x6, x7, x8, x9, x10, x11, x12, x13] ∧
      Sh p M M' ∧ M' r = some (.lst (rs.map enc)) ∧ rs.length + ds.length ≤ many.toNat ∧ rs.Nodup ∧ ∀ z ∈ rs, GoodR 3 3 z) ?_
    ⟨[], _, _, _, _, _, _, _, _, _, rfl, (sh0.trans sh1).trans sh2, sh2.2 r _ ne (sh1.2 r _ ne updM_same), by rw [rng_length]; simp, .nil, fun _ h => absurd h List.not_mem_nil⟩ ?_
  · rintro d ds sl M' N ⟨rs, x2, x6, x7, x8, x9, x10, x11, x12, x13, rfl, sh, hm, hl, nd, good⟩ kn
    rw [List.length_cons] at hl
    have hlen : ∀ z ∈ rs, z.1.length ≤ 5 := fun z hz => (good z hz).len (by decide)
    refine put_nm ?_
    refine seq_inv (I := fun sl' M' => ∃ (c : Case) (way : Int), sl' = [some (.raw (.ref p)), some (.int most), some d, some (.raw (.ref r)), some (.int many), some (.int (1 + v)), x6, some (enc c), some (.int way), x9, x10, x11, x12, x13] ∧ Sh p M M' ∧ M' r = some (.lst (rs.map enc)) ∧ InB 3 c ∧ Up c) (fun K hK => ?_) ?_
    · refine ⟨_, rfl, _, rfl, rfl, p, 3, rfl, by decide, by decide, sh.1, fun n1 M1 _ _ s1 => ?_⟩
      refine ⟨_, rfl, _, rfl, rfl, p, 1 + n1, 1 + v, rfl, s1.1, by omega, by omega, fun c M2 s2 hb up => ?_⟩
      refine ⟨_, rfl, rfl, p, 5, rfl, by decide, by decide, s2.1, fun way M3 _ _ s3 => ?_⟩
      exact ⟨_, _, rfl, hK _ _ ⟨c, way, rfl, ((sh.trans s1).trans s2).trans s3, s3.2 r _ ne (s2.2 r _ ne (s1.2 r _ ne hm)), hb.mono (by omega), up⟩⟩
    rintro sl1 M1 ⟨c, way, rfl, sh, hm, hb, up⟩
    refine seq_inv (I := fun sl' M' => ∃ (c : Case), sl' = [some (.raw (.ref p)), some (.int most), some d, some (.raw (.ref r)), some (.int many), some (.int (1 + v)), x6, some (enc c), some (.int way), x9, x10, x11, x12, x13] ∧ Sh p M M' ∧ M' r = some (.lst (rs.map enc)) ∧ InB 3 c ∧ Up c) (fun K hK => ?_) ?_
    · refine ⟨_, rfl, by decide, _, (by rw [der_at hm]; exact gEqB_nil (by decide) rs), _, rfl, ?_⟩
      refine iff_c (fun hne => ?_) (fun _ => iff_f rfl (hK _ _ ⟨c, rfl, sh, hm, hb, up⟩))
      refine ⟨_, rfl, _, rfl, _, rfl, ?_⟩
      refine iff_c (fun _ => ?_) (fun _ => hK _ _ ⟨c, rfl, sh, hm, hb, up⟩)
      have hne' : rs.map enc ≠ [] := fun e => by rw [List.map_eq_nil_iff.mp e] at hne; cases hne
      refine ⟨_, rfl, _, rfl, _, rfl, rfl, p, .raw (.ref r), rs.map enc, rfl, sh.1, hne', by rw [List.length_map]; omega, fun M' s' => .inl (der_at (s'.2 r _ ne hm)), fun x hx M2 s2 => ?_⟩
      obtain ⟨z, hz, rfl⟩ := List.mem_map.mp hx
      refine ⟨_, rfl, rfl, p, z.1, rfl, s2.1, by have := hlen z hz; omega, fun c' M3 sb s3 => ?_⟩
      exact hK _ _ ⟨c', rfl, (sh.trans s2).trans s3, s3.2 r _ ne (s2.2 r _ ne hm), (good z hz).1.sub sb, (good z hz).2.1.sublist sb⟩
    rintro sl1 M1 ⟨c, rfl, sh, hm, hb, up⟩
    refine seq_inv (I := fun sl' M' => ∃ (c : Case) (x9 x10 x11 x12 x13 : Option Dd), sl' = [some (.raw (.ref p)), some (.int most), some d, some (.raw (.ref r)), some (.int many), some (.int (1 + v)), x6, some (enc c), some (.int way), x9, x10, x11, x12, x13] ∧ Sh p M M' ∧ M' r = some (.lst (rs.map enc)) ∧ InB 3 c ∧ Up c) (fun K hK => ?_) ?_
    · refine ⟨_, rfl, by decide, _, (by rw [der_at hm]; exact gEqB_nil (by decide) rs), _, rfl, ?_⟩
      refine iff_c (fun hne => ?_) (fun _ => iff_f rfl (hK _ _ ⟨c, _, _, _, _, _, rfl, sh, hm, hb, up⟩))
      refine ⟨_, rfl, _, rfl, _, rfl, ?_⟩
      refine iff_c (fun _ => ?_) (fun _ => hK _ _ ⟨c, _, _, _, _, _, rfl, sh, hm, hb, up⟩)
      have hne' : rs.map enc ≠ [] := fun e => by rw [List.map_eq_nil_iff.mp e] at hne; cases hne
      refine ⟨_, rfl, _, rfl, rfl, p, .raw (.ref r), rs.map enc, rfl, sh.1, hne', by rw [List.length_map]; omega, fun M' s' => .inl (der_at (s'.2 r _ ne hm)), fun x hx M2 s2 => ?_⟩
      obtain ⟨z, hz, rfl⟩ := List.mem_map.mp hx
      refine ⟨_, rfl, ?_⟩
      have hz5 := hlen z hz
      have hc5 : c.length ≤ 5 := inB_up_len hb (by decide) up
      refine .inr ⟨_, rfl, _, rfl, ?_⟩
      refine lcGo_map (xs := z.1) (f := enc) (g := fun x => .int x.1) (fun x hx F hF => ?_) (by omega) ?_
      · exact ⟨_, rfl, rfl, _, rfl, hF⟩
      refine ⟨_, rfl, _, rfl, ?_⟩
      refine .inr ⟨_, rfl, _, rfl, ?_⟩
      refine lcGo_all (xs := c) (f := enc) (p := fun x => !decide (x.1 ∈ z.1.map (·.1))) (g := enc) (fun x hx F G hF => ?_) (by simp; omega) ?_
      · refine ⟨_, rfl, _, rfl, _, rfl, _, (by
            rw [show (z.1.map fun x => Dd.int x.1) = (z.1.map (·.1)).map enc by rw [List.map_map]; rfl]
            exact gInB_lst (α := Int) (by decide) x.1 _), _, rfl, ?_⟩
        cases hb : (!decide (x.1 ∈ z.1.map (·.1))) with
        | true => rw [hb, if_pos rfl] at hF; exact ⟨_, rfl, hF⟩
        | false => rw [hb, if_neg (by decide)] at hF; exact hF
      have hf : (c.filter fun x => !decide (x.1 ∈ z.1.map (·.1))).length ≤ 5 := Nat.le_trans (List.length_filter_le _ _) hc5
      refine ⟨_, if_pos (by simp only [List.length_map, List.nil_append]; omega), z.1 ++ c.filter fun x => !decide (x.1 ∈ z.1.map (·.1)), (by show some _ = some _; rw [List.map_append]; rfl), fun qs hp hs0 => ?_⟩
      have hs := asc_pairs hs0
      refine ⟨_, rfl, hK _ _ ⟨qs, _, _, _, _, _, rfl, sh.trans s2, s2.2 r _ ne hm, ?_⟩⟩
      exact merge_ok (good z hz).1 hb (good z hz).2.1 up hp hs
    rintro sl1 M1 ⟨c, x9, x10, x11, x12, x13, rfl, sh, hm, hb, up⟩
    refine seq_inv (I := fun sl' M' => ∃ (c : Case), sl' = [some (.raw (.ref p)), some (.int most), some d, some (.raw (.ref r)), some (.int many), some (.int (1 + v)), x6, some (enc c), some (.int way), x9, x10, x11, x12, x13] ∧ Sh p M M' ∧ M' r = some (.lst (rs.map enc)) ∧ InB 3 c ∧ Up c) (fun K hK => ?_) ?_
    · refine ⟨_, rfl, by decide, _, (by rw [der_at hm]; exact gEqB_nil (by decide) rs), _, rfl, ?_⟩
      refine iff_c (fun hne => ?_) (fun _ => iff_f rfl (hK _ _ ⟨c, rfl, sh, hm, hb, up⟩))
      refine ⟨_, rfl, _, rfl, _, rfl, ?_⟩
      refine iff_c (fun _ => ?_) (fun _ => hK _ _ ⟨c, rfl, sh, hm, hb, up⟩)
      have hne' : rs.map enc ≠ [] := fun e => by rw [List.map_eq_nil_iff.mp e] at hne; cases hne
      refine ⟨_, rfl, _, rfl, rfl, p, .raw (.ref r), rs.map enc, rfl, sh.1, hne', by rw [List.length_map]; omega, fun M' s' => .inl (der_at (s'.2 r _ ne hm)), fun x hx M2 s2 => ?_⟩
      obtain ⟨z, hz, rfl⟩ := List.mem_map.mp hx
      exact ⟨_, rfl, hK _ _ ⟨z.1, rfl, sh.trans s2, s2.2 r _ ne hm, (good z hz).1, (good z hz).2.1⟩⟩
    rintro sl1 M1 ⟨c, rfl, sh, hm, hb, up⟩
    refine ⟨_, rfl, _, rfl, rfl, p, 3, rfl, by decide, by decide, sh.1, fun n M2 n0 n1 s2 => ⟨by simp, ?_⟩⟩
    have hm2 := s2.2 r _ ne hm
    refine ⟨_, rfl, _, rfl, _, (by rw [der_at hm2]; exact gInB_lst (α := Rule) (by decide) (c, n) rs), _, rfl, ?_⟩
    refine iff_c (fun hn => ?_) (fun _ => ?_)
    · have hn : (c, n) ∉ rs := by simpa using hn
      refine ⟨_, rfl, r, _, rfl, hm2, _, rfl, _, hm2, by rw [List.length_map]; omega, ?_⟩
      refine kn _ _ ⟨rs ++ [(c, n)], _, _, _, _, _, _, _, _, _, rfl, (sh.trans s2).upd hr ne, by rw [updM_same]; simp; rfl, by simp; omega, ?_, ?_⟩
      · rw [List.nodup_append]
        refine ⟨nd, List.nodup_cons.mpr ⟨List.not_mem_nil, .nil⟩, fun a ha b hb' e => ?_⟩
        rw [List.mem_singleton] at hb'
        subst hb' e
        exact hn ha
      · intro z hz
        rw [List.mem_append, List.mem_singleton] at hz
        rcases hz with hz | rfl
        · exact good z hz
        · exact ⟨hb, up, n0, n1⟩
    · exact kn _ _ ⟨rs, _, _, _, _, _, _, _, _, _, rfl, sh.trans s2, hm2, by omega, nd, good⟩
  · rintro sl M' ⟨rs, x2, x6, x7, x8, x9, x10, x11, x12, x13, rfl, sh, hm, hl, nd, good⟩
    exact ⟨_, rfl, r, _, rfl, hm, q rs _ (sh.del hr ne) (by simp at hl; omega) nd good⟩
def sp_text : DSp := fun ds M Q _ => ∃ rs : List Rule, ds = [.lst (rs.map enc)] ∧ rs.length ≤ 12 ∧ (∀ r ∈ rs, okRule r = true) ∧ ∀ M', Fr M M' → Q (.str (textOf rs)) M'
theorem sc__law_text : FnScope ["_law_some_here", "_law_lines", "_law_case_here", "_law_result", "_law_words", "_law_line", "_law_attribute", "_law_value"] ["_law_some_here"] (defScope (top 46)) := ⟨rfl, rfl, rfl, by decide +kernel, rfl, by decide +kernel, by decide +kernel⟩
theorem ok__law_text (T : Fx K mg) : Fn bm P w K mg base "_law_text" 1 1 sp_text := by
  have S := sc__law_text
  refine fn_top T.d__law_text S rfl (fun _ _ _ _ _ _ us hl => match us, hl with | [_], _ => rfl) ⟨_, fun cdv A outer s H E bA hr tk po => have hu := hu_ok hr; (ss_cons (s_set (i := 1) S.nd rfl (Or.inl rfl) (d_new a_nil))
  (ss_cons (s_for po rfl (i_seq (d_var 0)) (g_tup rfl (gs_cons (g_name (i := 2) S.nd rfl (Or.inl rfl)) (gs_cons (g_name (i := 3) S.nd rfl (Or.inl rfl)) gs_nil)))
  (ss_cons (s_setLc (i := 4) (own := [("_law_attribute", 6), ("_law_value", 7)]) rfl S.nd rfl rfl (by kernel_rfl) (i_seq (d_var 2)) (blkOk_by rfl) (fun _ _ _ _ _ => (g_tup rfl (gs_cons (g_name (i := 6) S.nd rfl (by first | exact Or.inl rfl | exact Or.inr rfl)) (gs_cons (g_name (i := 7) S.nd rfl (by first | exact Or.inl rfl | exact Or.inr rfl)) gs_nil)))) (fun _ _ _ _ _ => ts_nil) (fun _ _ _ _ _ => (d_op o_add (d_op o_add (d_callTy (T := "str") c_str rfl (T.free "str" rfl) (by kernel_rfl) (a_cons (d_var 6) a_nil)) d_str) (d_callTy (T := "str") c_str rfl (T.free "str" rfl) (by kernel_rfl) (a_cons (d_var 7) a_nil)))))
  (ss_one (s_expr (d_append (d_var 1) (d_join d_str (d_op o_add (d_var 4) (d_lst (a_cons d_str (a_cons (d_callTy (T := "str") c_str rfl (T.free "str" rfl) (by kernel_rfl) (a_cons (d_var 3) a_nil)) a_nil))))))))))
  (ss_one (s_ret (d_join d_str (d_lc (own := [("_law_line", 5)]) rfl S.nd (i_list (d_frz (d_var 1))) (blkOk_by rfl) (fun _ _ _ _ _ => (g_name (i := 5) S.nd rfl (by first | exact Or.inl rfl | exact Or.inr rfl))) (fun _ _ _ _ _ => ts_nil) (fun _ _ _ _ _ => (d_op o_add (d_var 5) d_str)))))))), ?_⟩
  intro ds M Q E _ h
  obtain ⟨rs, rfl, h12, ok, q⟩ := h
  refine ⟨by decide, fun r hr => ?_⟩
  refine .inl ⟨_, rfl, _, rfl, ?_⟩
  refine forGo_inv (I := fun ds sl M' => ∃ (r1 r2 : List Rule) (x2 x3 x4 x5 x6 x7 : Option Dd), rs = r1 ++ r2 ∧ ds = r2.map enc ∧ sl = [some (.lst (rs.map enc)), some (.raw (.ref r)), x2, x3, x4, x5, x6, x7] ∧ Fr M M' ∧ M' r = some (.lst (r1.map fun z => .str (lineOf z)))) ?_
    ⟨[], rs, _, _, _, _, _, _, rfl, rfl, rfl, Fr.new hr, updM_same⟩ ?_
  · rintro d ds sl M' N ⟨r1, r2, x2, x3, x4, x5, x6, x7, e, e2, rfl, fr, hm⟩ kn
    cases r2 with
    | nil => cases e2
    | cons z r2 =>
      simp only [List.map_cons, List.cons.injEq] at e2
      obtain ⟨rfl, rfl⟩ := e2
      have hz : z ∈ rs := by rw [e]; simp
      have hl1 : r1.length ≤ 12 := by rw [e] at h12; simp at h12; omega
      have okz := ok z hz
      have okz2 := okz
      unfold okRule at okz2
      rw [Bool.and_eq_true] at okz2
      have hl5 := upC_len okz2.1
      have hc := okz2.1
      unfold okCase at hc
      rw [Bool.and_eq_true, List.all_eq_true] at hc
      refine ⟨_, rfl, rfl, ?_⟩
      refine .inr ⟨_, rfl, _, rfl, ?_⟩
      refine lcGo_map (xs := z.1) (f := enc) (g := fun c => .str (condS c)) (fun c hcm F hF => ?_) (by omega) ?_
      · obtain ⟨_, _, _, _, _⟩ := cond_tl (hc.1 c hcm)
        have t1 := str_small (i := c.1) (by omega) (by omega)
        have t2 := str_small (i := c.2) (by omega) (by omega)
        have hcs : (condS c).length ≤ 3 := by
          rw [TL.len_tl, (cond_tl (hc.1 c hcm)).1]
          simp
        have l1 : (Str.ofString (toString c.1) ++ Str.ofString "=").length + (Str.ofString (toString c.2)).length ≤ 1000000 := by
          rw [← strLen_append]
          exact Nat.le_trans hcs (by decide)
        have l2 : (Str.ofString (toString c.1)).length + (Str.ofString "=").length ≤ 1000000 := by
          rw [← strLen_append]
          omega
        refine ⟨_, rfl, rfl, ?_⟩
        refine ⟨_, rfl, _, t1, _, g_cat l2, _, rfl, _, t2, _, g_cat l1, hF⟩
      refine ⟨_, rfl, r, _, rfl, hm, ?_⟩
      have R := res_ok okz2.2
      have t3 := str_small (i := z.2) (by have := okz2.2; rw [betw_iff] at this; omega) (by have := okz2.2; rw [betw_iff] at this; omega)
      refine ⟨⟨_, rfl⟩, _, rfl, _, rfl, _, t3, by simp, _, if_pos (by simp; omega), ?_⟩
      have ew : ((z.1.map fun c => Dd.str (condS c)) ++ [Dd.str (Str.ofString "gives"), Dd.str (Str.ofString (toString z.2))]) = (wordsOf z).map Dd.str := by
        unfold DL.wordsOf resS
        simp
      have ej : gJoin (.str (Str.ofString " ")) (.lst ((wordsOf z).map Dd.str)) = some (.str (lineOf z)) := by
        refine g_join ?_
        refine Nat.le_trans (words_sum okz) (by decide)
      refine ⟨_, (by rw [ew]; exact ej), _, hm, by rw [List.length_map]; omega, ?_⟩
      exact kn _ _ ⟨r1 ++ [z], r2, _, _, _, _, _, _, by simp [e], rfl, rfl, fr.upd hr, by rw [updM_same]; simp⟩
  · rintro sl M' ⟨r1, r2, x2, x3, x4, x5, x6, x7, e, e2, rfl, fr, hm⟩
    cases r2 with
    | cons z r2 => cases e2
    | nil =>
      rw [List.append_nil] at e
      subst e
      refine ⟨⟨_, rfl⟩, _, rfl, r, _, rfl, hm, _, rfl, ?_⟩
      refine lcGo_map (xs := rs) (f := fun z => .str (lineOf z)) (g := fun z => .str (lineOf z ++ Str.ofString "\n")) (fun z hz F hF => ?_) (by omega) ?_
      · have := (line_no (ok z hz)).2
        refine ⟨_, rfl, _, g_cat (by rw [TL.len_tl, TL.len_tl]; have e : (TL.tl (Str.ofString "\n")).length = 1 := (by decide +kernel); omega), hF⟩
      · refine ⟨_, text_join ok h12, q _ (fr.del hr)⟩
end
end My
namespace My
open PySem PySem.Spec PyProof.Rows L2 DL Enc
section
variable {P : Program} {w : World} {K : PySem.W.Frag} {mg : Str → Option Value} {base : Heap}
theorem g_cat {xs ys : List Dd} (h : xs.length + ys.length ≤ 100000) : gAdd (.lst xs) (.lst ys) = some (.lst (xs ++ ys)) := if_pos h
theorem cut_last {α : Type} (xs : List α) : cutD xs none (some (-1)) = xs.dropLast := by
  unfold DL.cutD
  have e1 : HT.sIx xs.length 0 none = 0 := rfl
  have e2 : HT.sIx xs.length xs.length (some (-1)) = xs.length - 1 := by
    unfold HT.sIx
    simp only []
    rw [if_pos (by decide)]
    omega
  rw [e1, e2, List.drop_zero, List.dropLast_eq_take]
  rfl
theorem gNe_nil (rs : List Rule) : gNe (.lst (rs.map enc)) (.lst []) = some (.bl (!decide (rs = []))) := gEqB_lst (α := Rule) (f := fun b => !b) (by decide) rs []
def OkL (rs : List Rule) : Prop := rs.length ≤ 12 ∧ rs.Nodup ∧ ∀ z ∈ rs, okRule z = true
def sp_near : DSp := fun ds M Q _ => ∃ (p : Addr) (rs : List Rule), ds = [.raw (.ref p), .lst (rs.map enc)] ∧ S3 M p ∧ OkL rs ∧ rs.length ≤ 11 ∧ ∀ os M', Sh p M M' → OkL os → Q (.lst (os.map enc)) M'
theorem sc__law_near : FnScope ["_law_source_here", "_law_some_here", "_law_found", "_law_by", "_law_other", "_law_case_here", "_law_result", "_law_rule"] ["_law_source_here", "_law_some_here"] (defScope (top 47)) := ⟨rfl, rfl, rfl, by decide +kernel, rfl, by decide +kernel, by decide +kernel⟩
theorem ok__law_near (T : Fx K mg) : Fn bm P w K mg base "_law_near" 2 4 sp_near := by
  have S := sc__law_near
  refine fn_top T.d__law_near S rfl (fun _ _ _ _ _ _ us hl => match us, hl with | [_, _], _ => rfl) ⟨_, fun cdv A outer s H E bA hr tk po => have hu := hu_ok hr; (ss_cons (s_par (i := 3) (j := 4) rfl S.nd rfl rfl (by decide) rfl rfl (a_cons (d_call (ok__law_draw T) bA (hr.mono (by decide)) tk rfl (a_cons (d_var 0) (a_cons (d_op o_add (d_callB (id := "len") c_len rfl (T.free "len" rfl) (by kernel_rfl) (a_cons (d_var 1) a_nil)) d_int) a_nil))) (a_cons (d_call (ok__law_some T) bA (hr.mono (by decide)) tk rfl (a_cons (d_var 0) (a_cons d_int a_nil))) a_nil)) (by kernel_rfl))
  (ss_cons (s_set (i := 2) S.nd rfl (Or.inl rfl) (d_new (a_cons (d_var 1) (a_cons (d_revL (d_var 1)) (a_cons (d_op o_add (d_slice (d_var 1) (p_some (d_var 3)) p_none) (d_slice (d_var 1) p_none (p_some (d_var 3)))) (a_cons (d_slice (d_var 1) (p_some d_int) p_none) a_nil))))))
  (ss_cons (s_expr (d_append (d_var 2) (d_op o_add (d_slice (d_var 1) p_none (p_some (d_neg d_int))) (d_lc (own := [("_law_rule", 7)]) rfl S.nd (i_seq (d_var 4)) (blkOk_by rfl) (fun _ _ _ _ _ => (g_name (i := 7) S.nd rfl (by first | exact Or.inl rfl | exact Or.inr rfl))) (fun _ _ _ _ _ => (ts_one (t_cmp (o_notIn hu) (d_var 7) (d_var 1) rfl))) (fun _ _ _ _ _ => (d_var 7))))))
  (ss_cons (s_if (t_cmp (o_ne hu) (d_var 1) (d_lst a_nil) (nomark _))
  (ss_cons (s_asgT (d_ix (d_var 1) d_int (fun _ _ => rfl)) (g_tup rfl (gs_cons (g_name (i := 5) S.nd rfl (Or.inr rfl)) (gs_cons (g_name (i := 6) S.nd rfl (Or.inr rfl)) gs_nil))))
  (ss_one (s_expr (d_append (d_var 2) (d_op o_add (d_lst (a_cons (d_tup (a_cons (d_var 5) (a_cons (d_op o_sub d_int (d_var 6)) a_nil))) a_nil)) (d_lc (own := [("_law_rule", 7)]) rfl S.nd (i_seq (d_slice (d_var 1) (p_some d_int) p_none)) (blkOk_by rfl) (fun _ _ _ _ _ => (g_name (i := 7) S.nd rfl (by first | exact Or.inl rfl | exact Or.inr rfl))) (fun _ _ _ _ _ => (ts_one (t_cmp (o_ne hu) (d_var 7) (d_tup (a_cons (d_var 5) (a_cons (d_op o_sub d_int (d_var 6)) a_nil))) (nomark _)))) (fun _ _ _ _ _ => (d_var 7))))))))
  ss_nil)
  (ss_one (s_frzV 2 (s_ret (d_call (ok__law_choose T) bA (hr.mono (by decide)) tk rfl (a_cons (d_var 0) (a_cons (d_var 2) a_nil)))))))))), ?_⟩
  intro ds M Q E _ h
  obtain ⟨p, rs, rfl, s3, ok, h11, q⟩ := h
  obtain ⟨h12, nd, okr⟩ := id ok
  refine ⟨_, rfl, _, rfl, _, rfl, _, rfl, rfl, p, _, rfl, by rw [List.length_map]; omega, by rw [List.length_map]; omega, s3, fun n M1 n0 n1 sh1 => ?_⟩
  refine ⟨_, rfl, rfl, p, 2, rfl, sh1.1, by decide, by decide, fun xs M2 sh2 hl ndx good => ?_⟩
  have sh2 := sh1.trans sh2
  have okx : ∀ r ∈ xs, okRule r = true := fun r hr => (good r hr).ok (by decide) (by decide)
  refine ⟨_, _, rfl, ?_⟩
  have e1 : cutD (rs.map enc) (some n) none = (rs.drop n.toNat).map enc := by rw [cut_map, cut_drop n0]
  have e2 : cutD (rs.map enc) none (some n) = (rs.take n.toNat).map enc := by rw [cut_map, cut_take n0]
  have e3 : cutD (rs.map enc) (some 1) none = (rs.drop 1).map enc := by rw [cut_map, cut_drop (by decide)]; rfl
  have e4 : cutD (rs.map enc) none (some (-1)) = rs.dropLast.map enc := by rw [cut_map, cut_last]
  refine ⟨_, rfl, _, rfl, _, rfl, _, rfl, _, rfl, _, rfl, _, congrArg (fun z => some (Dd.lst z)) e1, _, rfl, _, rfl, _, rfl, _, congrArg (fun z => some (Dd.lst z)) e2, _, g_cat (by simp; omega), _, rfl, _, rfl, _, congrArg (fun z => some (Dd.lst z)) e3, by simp, fun p2 hp2 => ?_⟩
  have ne2 : p2 ≠ p := S3.ne sh2.1 hp2
  refine ⟨_, rfl, p2, _, rfl, updM_same, _, rfl, _, rfl, _, rfl, _, congrArg (fun z => some (Dd.lst z)) e4, ?_⟩
  refine .inl ⟨_, rfl, _, rfl, ?_⟩
  refine lcGo_all (xs := xs) (f := enc) (p := fun r => !decide (r ∈ rs)) (g := enc) (fun r hr F G hF => ?_) (by simp; omega) ?_
  · refine ⟨_, rfl, _, rfl, _, gInB_lst (α := Rule) (by decide) r rs, _, rfl, ?_⟩
    refine iff_c (fun h => ?_) (fun h => ?_)
    · rw [if_pos h] at hF
      exact ⟨_, rfl, hF⟩
    · rw [if_neg (by rw [h]; decide)] at hF
      exact hF
  rw [List.nil_append]
  have hf := List.length_filter_le (fun r => !decide (r ∈ rs)) xs
  have h2 : xs.length ≤ 2 := hl
  refine ⟨_, g_cat (by simp; omega), _, updM_same, by simp, ?_⟩
  rw [updM_updM]
  have n1 : OkL (rs.dropLast ++ xs.filter fun r => !decide (r ∈ rs)) := by
    refine ⟨by rw [List.length_append, List.length_dropLast]; omega, ?_, fun z hz => ?_⟩
    · refine List.nodup_append.mpr ⟨nd.sublist (List.dropLast_sublist _), ndx.sublist List.filter_sublist, fun a ha b hb e => ?_⟩
      subst e
      have := (List.mem_filter.mp hb).2
      rw [Bool.not_eq_true', decide_eq_false_iff_not] at this
      exact this (List.dropLast_subset _ ha)
    · rcases List.mem_append.mp hz with h | h
      · exact okr z (List.dropLast_subset _ h)
      · exact okx z (List.mem_filter.mp h).1
  have n2 : OkL rs.reverse := ⟨by simpa using h12, (List.reverse_perm rs).nodup_iff.mpr nd, fun z hz => okr z (List.mem_reverse.mp hz)⟩
  have n3 : OkL (rs.drop n.toNat ++ rs.take n.toNat) := by
    have pm : (rs.drop n.toNat ++ rs.take n.toNat).Perm rs := (List.perm_append_comm).trans (by rw [List.take_append_drop])
    exact ⟨by rw [pm.length_eq]; exact h12, pm.nodup_iff.mpr nd, fun z hz => okr z (pm.mem_iff.mp hz)⟩
  have n4 : OkL (rs.drop 1) := ⟨by rw [List.length_drop]; omega, nd.sublist (List.drop_sublist _ _), fun z hz => okr z (List.mem_of_mem_drop hz)⟩
  dsimp only
  have eL : ([Dd.lst (rs.map enc), Dd.lst (rs.map enc).reverse, Dd.lst ((rs.drop n.toNat).map enc ++ (rs.take n.toNat).map enc), Dd.lst ((rs.drop 1).map enc)] ++ [Dd.lst (rs.dropLast.map enc ++ (xs.filter fun r => !decide (r ∈ rs)).map enc)]) = [rs, rs.reverse, rs.drop n.toNat ++ rs.take n.toNat, rs.drop 1, rs.dropLast ++ xs.filter fun r => !decide (r ∈ rs)].map fun l => Dd.lst (l.map enc) := by
    simp only [List.map_cons, List.map_nil, List.map_append, List.map_reverse, List.cons_append, List.nil_append]
  rw [eL]
  have okL : ∀ l ∈ [rs, rs.reverse, rs.drop n.toNat ++ rs.take n.toNat, rs.drop 1, rs.dropLast ++ xs.filter fun r => !decide (r ∈ rs)], OkL l := fun l hl => by
    simp only [List.mem_cons, List.not_mem_nil, or_false] at hl
    rcases hl with rfl | rfl | rfl | rfl | rfl <;> assumption
  have h5 : [rs, rs.reverse, rs.drop n.toNat ++ rs.take n.toNat, rs.drop 1, rs.dropLast ++ xs.filter fun r => !decide (r ∈ rs)].length = 5 := rfl
  generalize [rs, rs.reverse, rs.drop n.toNat ++ rs.take n.toNat, rs.drop 1, rs.dropLast ++ xs.filter fun r => !decide (r ∈ rs)] = L0 at okL h5
  have ne0 : L0 ≠ [] := fun e => by subst e; cases h5
  refine seq_inv (I := fun sl' M' => Sh p M M' ∧ ∃ (L : List (List Rule)) (x5 x6 x7 : Option Dd), M' p2 = some (.lst (L.map fun l => .lst (l.map enc))) ∧ L ≠ [] ∧ L.length ≤ 6 ∧ (∀ l ∈ L, OkL l) ∧ sl' = [some (.raw (.ref p)), some (.lst (rs.map enc)), some (.raw (.ref p2)), some (.int n), some (.lst (xs.map enc)), x5, x6, x7]) (fun N hN => ?_) ?_
  · have sh3 : Sh p M (updM M2 p2 (.lst (L0.map fun l => .lst (l.map enc)))) := sh2.new hp2
    refine ⟨_, rfl, by simp, _, gNe_nil rs, _, rfl, ?_⟩
    refine iff_c (fun h => ?_) (fun h => hN _ _ ⟨sh3, L0, _, _, _, updM_same, ne0, by omega, okL, rfl⟩)
    cases rs with
    | nil => simp at h
    | cons r rs =>
      refine ⟨_, rfl, enc r, atI_map (l := r :: rs) (i := 0) (by decide) rfl, [enc r.1, .int r.2], rfl, rfl, ?_⟩
      refine ⟨_, rfl, p2, _, rfl, updM_same, _, rfl, _, rfl, _, rfl, by simp, by simp, ?_⟩
      refine .inl ⟨_, rfl, _, rfl, _, congrArg (fun z => some (Dd.lst z)) e3, _, rfl, ?_⟩
      have hrl : rs.length + 1 ≤ 11 := h11
      refine lcGo_all (xs := (r :: rs).drop 1) (f := enc) (p := fun z => !decide (z = (r.1, 99 - r.2))) (g := enc) (fun z hz F G hF => ?_) (by simp; omega) ?_
      · refine ⟨_, rfl, _, rfl, _, rfl, _, rfl, by simp, _, gEqB_enc (α := Rule) (by decide) z (r.1, 99 - r.2), _, rfl, ?_⟩
        refine iff_c (fun h => ?_) (fun h => ?_)
        · rw [if_pos h] at hF
          exact ⟨_, rfl, hF⟩
        · rw [if_neg (by rw [h]; decide)] at hF
          exact hF
      rw [List.nil_append]
      have hfl : ∀ q : Rule → Bool, (((r :: rs).drop 1).filter q).length ≤ 10 := fun q => Nat.le_trans (List.length_filter_le _ _) (show rs.length ≤ 10 by omega)
      have okr0 := rule_ok.mp (okr r List.mem_cons_self)
      have n6 : OkL ((r.1, 99 - r.2) :: ((r :: rs).drop 1).filter fun z => !decide (z = (r.1, 99 - r.2))) := by
        refine ⟨Nat.succ_le_succ (Nat.le_trans (hfl _) (by decide)), ?_, fun z hz => ?_⟩
        · refine List.nodup_cons.mpr ⟨fun h => ?_, n4.2.1.sublist List.filter_sublist⟩
          have := (List.mem_filter.mp h).2
          simp at this
        · rcases List.mem_cons.mp hz with rfl | hz
          · exact rule_ok.mpr ⟨okr0.1, by omega, by omega⟩
          · exact n4.2.2 z (List.mem_filter.mp hz).1
      refine ⟨_, g_cat (by rw [List.length_map]; exact Nat.le_trans (Nat.add_le_add_left (hfl _) _) (show 1 + 10 ≤ 100000 by decide)), _, updM_same, by rw [List.length_map]; omega, ?_⟩
      rw [updM_updM]
      have eL2 : (L0.map fun l => Dd.lst (l.map enc)) ++ [Dd.lst ([Dd.tup [enc r.1, .int (99 - r.2)]] ++ (((r :: rs).drop 1).filter fun z => !decide (z = (r.1, 99 - r.2))).map enc)] = (L0 ++ [(r.1, 99 - r.2) :: ((r :: rs).drop 1).filter fun z => !decide (z = (r.1, 99 - r.2))]).map fun l => Dd.lst (l.map enc) := by
        rw [List.map_append]
        rfl
      refine hN _ _ ⟨sh2.new hp2, L0 ++ [(r.1, 99 - r.2) :: ((r :: rs).drop 1).filter fun z => !decide (z = (r.1, 99 - r.2))], _, _, _, ?_, by simp, by rw [List.length_append, List.length_singleton]; omega, fun l hl => ?_, rfl⟩
      · rw [updM_same]
        exact congrArg (fun z => some (MO.lst z)) eL2
      · rcases List.mem_append.mp hl with h | h
        · exact okL l h
        · rw [List.mem_singleton.mp h]
          exact n6
  rintro sl' M' ⟨sh, L, x5, x6, x7, hL, ne, h6, okL, rfl⟩
  refine ⟨p2, _, rfl, hL, ?_⟩
  have hq2 : M p2 = none := by
    cases e : M p2 with
    | none => rfl
    | some o => rw [sh2.2 p2 o ne2 e] at hp2; cases hp2
  have shd : Sh p M (delM M' p2) := sh.del hq2 ne2
  refine ⟨_, rfl, _, rfl, rfl, p, _, _, rfl, shd.1, by simpa using ne, by rw [List.length_map]; omega, fun _ _ => .inl rfl, fun x hx M5 s5 => ?_⟩
  obtain ⟨l, hl, rfl⟩ := List.mem_map.mp hx
  exact q l M5 (shd.trans s5) (okL l hl)
theorem isi_ko {cs : List Addr} {C D : Addr} {ks : List Str} {xs : List Dd} (h : C ∈ cs) (e : PySem.W.kitOne K (.ref C) (.ref D) = some false) : gIsi K cs [.ins C ks xs, .raw (.ref D)] = some (.bl false) := by
  simp only [gIsi, tyD, clsD, if_pos h, Option.bind_some, e, Option.map_some]
theorem isi_kind {K : PySem.W.Frag} {cs : List Addr} {d : Dd} {t : String} {C : Addr} (h : kindD d = some t) (e : PySem.W.kitOne K (.type t) (.ref C) = some false) : gIsi K cs [d, .raw (.ref C)] = some (.bl false) := by
  cases d <;> simp [kindD] at h <;> subst h <;> simp only [gIsi, tyD, clsD, Option.bind_some, e, Option.map_some]
theorem rs_bl (b : Bool) : RS (.bl b) 0 8 := by cases b <;> exact ⟨_, rfl, by decide, by decide, by decide, by decide⟩
def adE (K : PySem.W.Frag) (C : Addr) : Addr := if C = He.ga K "Rules" then ad_Rules___eq__ K else ad_Ordered___eq__ K
def spE (K : PySem.W.Frag) (C : Addr) : DSp := fun ds M Q E => ds.length = 2 ∧ (if C = He.ga K "Rules" then sp_eqRules K else sp_eqOrdered K) ds M Q E
theorem eqx_all (T : Fx K mg) : ∀ C ∈ oC K, EqX K (oC K) C (adE K C) := fun C h => by
  rcases List.mem_cons.mp h with rfl | h
  · simp only [adE, if_true]
    exact T.eqx_Rules
  · cases List.mem_singleton.mp h
    simp only [adE, if_neg T.ne_cls]
    exact T.eqx_Ordered
theorem sup_all (T : Fx K mg) : ∀ C ∈ oC K, ∀ T ∈ oddK, PySem.W.subIn K (.ref C) (.type T) = some false := fun C h => by
  rcases List.mem_cons.mp h with rfl | h
  · exact T.sup_Rules
  · cases List.mem_singleton.mp h
    exact T.sup_Ordered
theorem eq_all {bm : Bool} (T : Fx K mg) : ∀ C ∈ oC K, FR bm P w K mg base 1 (adE K C) (liftV (spE K C)) := fun C h => by
  rcases List.mem_cons.mp h with rfl | h
  · have e : spE K (He.ga K "Rules") = fun ds M Q E => ds.length = 2 ∧ sp_eqRules K ds M Q E := by
      funext ds M Q E
      simp only [spE, if_true]
    rw [e]
    simp only [adE, if_true]
    exact ok_Rules___eq__ T
  · cases List.mem_singleton.mp h
    have e : spE K (He.ga K "Ordered") = fun ds M Q E => ds.length = 2 ∧ sp_eqOrdered K ds M Q E := by
      funext ds M Q E
      simp only [spE, if_neg T.ne_cls]
    rw [e]
    simp only [adE, if_neg T.ne_cls]
    exact ok_Ordered___eq__ T
theorem spe_R {rs os : List Rule} {M : MS} {Q : QD} {E : XD} (hC : He.ga K "Rules" ∈ oC K) (q : ∀ k : Bool, (k = true ↔ rs.Perm os) → Q (.bl k) M) : spE K (He.ga K "Rules") [kept (He.ga K "Rules") rs, kept (He.ga K "Rules") os] M Q E := by
  refine ⟨rfl, ?_⟩
  rw [if_pos rfl]
  exact ⟨rs, _, true, rfl, hC, isi_self (ks := ["kept"]) (xs := [.tup (os.map enc)]) hC, fun _ => ⟨os, rfl, q⟩, fun h => by cases h⟩
theorem spe_O {rs os : List Rule} {M : MS} {Q : QD} {E : XD} (T : Fx K mg) (hC : He.ga K "Ordered" ∈ oC K) (q : ∀ k : Bool, (k = true ↔ rs = os) → Q (.bl k) M) : spE K (He.ga K "Ordered") [kept (He.ga K "Ordered") rs, kept (He.ga K "Ordered") os] M Q E := by
  refine ⟨rfl, ?_⟩
  rw [if_neg T.ne_cls]
  exact ⟨rs, _, true, rfl, hC, isi_self (ks := ["kept"]) (xs := [.tup (os.map enc)]) hC, fun _ => ⟨os, rfl, q⟩, fun h => by cases h⟩
theorem spe_X {rs : List Rule} {d : Dd} {C : Addr} {M : MS} {Q : QD} {E : XD} (T : Fx K mg) (hC : C ∈ oC K) (h : gIsi K (isC K) [der M d, .raw (.ref C)] = some (.bl false)) (q : Q (.bl false) M) : spE K C [kept C rs, d] M Q E := by
  refine ⟨rfl, ?_⟩
  rcases List.mem_cons.mp hC with rfl | hC
  · rw [if_pos rfl]
    exact ⟨rs, d, false, rfl, List.mem_cons_self, h, (fun h => by cases h), fun _ => q⟩
  · cases List.mem_singleton.mp hC
    rw [if_neg T.ne_cls]
    exact ⟨rs, d, false, rfl, List.mem_cons_of_mem _ List.mem_cons_self, h, (fun h => by cases h), fun _ => q⟩
def sp_right (K : PySem.W.Frag) : DSp := fun ds M Q _ => ∃ (p : Addr) (rs : List Rule), ds = [.raw (.ref p), .lst (rs.map enc)] ∧ S3 M p ∧ OkL rs ∧ rs.length ≤ 11 ∧ ∀ M', S3 M' p → Q (.bl true) M'
theorem sc__law_is_right : FnScope ["_law_source_here", "_law_some_here", "_law_near_here", "_law_told", "_law_odd", "_law_one", "_law_other", "_law_first", "_law_second", "_law_alike", "_law_exact"] ["_law_source_here", "_law_some_here"] (defScope (top 48)) := ⟨rfl, rfl, rfl, by decide +kernel, rfl, by decide +kernel, by decide +kernel⟩
theorem ok__law_is_right (T : Fx K mg) : Fn true P w K mg base "_law_is_right" 2 10 (sp_right K) := by
  have S := sc__law_is_right
  refine fn_top T.d__law_is_right S rfl (fun _ _ _ _ _ _ us hl => match us, hl with | [_, _], _ => rfl) ⟨_, fun cdv A outer s H E bA hr tk po => have hu := hu_ok hr; (ss_cons (s_set (i := 2) S.nd rfl (Or.inl rfl) (d_call (ok__law_near T) bA (hr.mono (by decide)) tk rfl (a_cons (d_var 0) (a_cons (d_var 1) a_nil))))
  (ss_cons (s_par (i := 5) (j := 6) rfl S.nd rfl rfl (by decide) rfl rfl (a_cons (d_cmeth bA (hr.mono (by decide)) tk T.rd_Rules T.cm_Rules (ok_Listing_read T) (d_gC rfl T.g_Rules) (a_cons (d_call (ok__law_text T) bA (hr.mono (by decide)) tk rfl (a_cons (d_var 1) a_nil)) a_nil)) (a_cons (d_cmeth bA (hr.mono (by decide)) tk T.rd_Rules T.cm_Rules (ok_Listing_read T) (d_gC rfl T.g_Rules) (a_cons (d_call (ok__law_text T) bA (hr.mono (by decide)) tk rfl (a_cons (d_var 2) a_nil)) a_nil)) a_nil)) (by kernel_rfl))
  (ss_cons (s_par (i := 7) (j := 8) rfl S.nd rfl rfl (by decide) rfl rfl (a_cons (d_cmeth bA (hr.mono (by decide)) tk T.rd_Ordered T.cm_Ordered (ok_Listing_read T) (d_gC rfl T.g_Ordered) (a_cons (d_call (ok__law_text T) bA (hr.mono (by decide)) tk rfl (a_cons (d_var 1) a_nil)) a_nil)) (a_cons (d_cmeth bA (hr.mono (by decide)) tk T.rd_Ordered T.cm_Ordered (ok_Listing_read T) (d_gC rfl T.g_Ordered) (a_cons (d_call (ok__law_text T) bA (hr.mono (by decide)) tk rfl (a_cons (d_var 2) a_nil)) a_nil)) a_nil)) (by kernel_rfl))
  (ss_cons (s_par (i := 9) (j := 10) rfl S.nd rfl rfl (by decide) rfl rfl (a_cons (d_cmp (o_eq hu) (d_sort Rule hu rfl (T.free "sorted" rfl) (a_cons (d_var 1) a_nil)) (d_sort Rule hu rfl (T.free "sorted" rfl) (a_cons (d_var 2) a_nil)) (nomark _)) (a_cons (d_cmp (o_eq hu) (d_var 1) (d_var 2) (nomark _)) a_nil)) (by kernel_rfl))
  (ss_cons (s_set (i := 3) S.nd rfl (Or.inl rfl) (d_lst (a_cons (d_eqA (cs := oC K) (g := adE K) (sp := spE K) bA (hr.mono (by decide)) hu tk (eqx_all T) (eq_all T) (d_var 5) (d_var 6) (nomark _)) (a_cons (d_eqA (cs := oC K) (g := adE K) (sp := spE K) bA (hr.mono (by decide)) hu tk (eqx_all T) (eq_all T) (d_var 6) (d_var 5) (nomark _)) (a_cons (d_neA (cs := oC K) (g := adE K) (sp := spE K) bA (hr.mono (by decide)) hu tk (eqx_all T) (eq_all T) (d_var 5) (d_var 6) (nomark _)) (a_cons (d_eqA (cs := oC K) (g := adE K) (sp := spE K) bA (hr.mono (by decide)) hu tk (eqx_all T) (eq_all T) (d_var 7) (d_var 8) (nomark _)) (a_cons (d_eqA (cs := oC K) (g := adE K) (sp := spE K) bA (hr.mono (by decide)) hu tk (eqx_all T) (eq_all T) (d_var 8) (d_var 7) (nomark _)) (a_cons (d_neA (cs := oC K) (g := adE K) (sp := spE K) bA (hr.mono (by decide)) hu tk (eqx_all T) (eq_all T) (d_var 7) (d_var 8) (nomark _)) a_nil))))))))
  (ss_cons (s_if (t_not (t_val (d_call (ok__law_is_equal T) bA (hr.mono (by decide)) tk rfl (a_cons (d_var 3) (a_cons (d_lst (a_cons (d_var 9) (a_cons (d_var 9) (a_cons (d_not (d_var 9)) (a_cons (d_var 10) (a_cons (d_var 10) (a_cons (d_not (d_var 10)) a_nil))))))) a_nil)))))
  (ss_one (s_ret d_bl))
  ss_nil)
  (ss_cons (s_if (t_bool (w_or (t_not (t_val (d_isi (K := K) (cs := isC K) rfl T.isi rfl (T.free "isinstance" rfl) (a_cons (d_var 5) (a_cons (d_gC rfl T.g_Listing) a_nil))))) (w_or1 (t_not (t_val (d_isi (K := K) (cs := isC K) rfl T.isi rfl (T.free "isinstance" rfl) (a_cons (d_var 7) (a_cons (d_gC rfl T.g_Listing) a_nil))))))))
  (ss_one (s_ret d_bl))
  ss_nil)
  (ss_cons (s_if (t_bool (w_or (t_eqA (cs := oC K) (g := adE K) (sp := spE K) bA (hr.mono (by decide)) hu tk (eqx_all T) (eq_all T) (d_var 5) (d_var 7) rfl) (w_or (t_eqA (cs := oC K) (g := adE K) (sp := spE K) bA (hr.mono (by decide)) hu tk (eqx_all T) (eq_all T) (d_var 7) (d_var 5) rfl) (w_or (t_not (t_neA (cs := oC K) (g := adE K) (sp := spE K) bA (hr.mono (by decide)) hu tk (eqx_all T) (eq_all T) (d_var 5) (d_var 7) rfl)) (w_or1 (t_eqA (cs := oC K) (g := adE K) (sp := spE K) bA (hr.mono (by decide)) hu tk (eqx_all T) (eq_all T) (d_mk0 (cs := oC K) (mkw := fun C ds M Q E => MkD C (st_Listing___init__ K) ds M Q E) bA (hr.mono (by decide)) tk T.mkA (ok_Listing___init__ T) (fun _ _ _ _ _ h => .inl h) (d_gC rfl T.g_Rules)) (d_mk0 (cs := oC K) (mkw := fun C ds M Q E => MkD C (st_Listing___init__ K) ds M Q E) bA (hr.mono (by decide)) tk T.mkA (ok_Listing___init__ T) (fun _ _ _ _ _ h => .inl h) (d_gC rfl T.g_Ordered)) rfl))))))
  (ss_one (s_ret d_bl))
  ss_nil)
  (ss_cons (s_for po rfl (i_list (d_lst (a_cons d_non (a_cons d_int (a_cons d_bl (a_cons d_str (a_cons (d_meth0 (cs := oC K) bA (hr.mono (by decide)) tk T.me_Listing_text (ok_Listing_text T) (d_var 5)) (a_cons (d_prop (cs := oC K) bA (hr.mono (by decide)) T.pr_rules (ok_Listing_rules T) (d_var 5)) (a_cons (d_var 1) (a_cons d_dict0 (a_cons (d_lst (a_cons (d_var 5) a_nil)) (a_cons (d_tup a_nil) a_nil)))))))))))) (g_name (i := 4) S.nd rfl (Or.inl rfl))
  (ss_one (s_if (t_bool (w_or (t_eqA (cs := oC K) (g := adE K) (sp := spE K) bA (hr.mono (by decide)) hu tk (eqx_all T) (eq_all T) (d_var 5) (d_var 4) rfl) (w_or (t_eqR (cs := oC K) (g := adE K) (sp := spE K) bA (hr.mono (by decide)) hu tk (eqx_all T) (sup_all T) (eq_all T) (d_var 4) (d_var 5) rfl) (w_or (t_not (t_neA (cs := oC K) (g := adE K) (sp := spE K) bA (hr.mono (by decide)) hu tk (eqx_all T) (eq_all T) (d_var 5) (d_var 4) rfl)) (w_or (t_eqA (cs := oC K) (g := adE K) (sp := spE K) bA (hr.mono (by decide)) hu tk (eqx_all T) (eq_all T) (d_var 7) (d_var 4) rfl) (w_or1 (t_not (t_neA (cs := oC K) (g := adE K) (sp := spE K) bA (hr.mono (by decide)) hu tk (eqx_all T) (eq_all T) (d_var 7) (d_var 4) rfl))))))))
  (ss_one (s_ret d_bl))
  ss_nil)))
  (ss_one (s_ret (d_and (d_eqA (cs := oC K) (g := adE K) (sp := spE K) bA (hr.mono (by decide)) hu tk (eqx_all T) (eq_all T) (d_var 5) (d_cmeth bA (hr.mono (by decide)) tk T.rd_Rules T.cm_Rules (ok_Listing_read T) (d_gC rfl T.g_Rules) (a_cons (d_meth0 (cs := oC K) bA (hr.mono (by decide)) tk T.me_Listing_text (ok_Listing_text T) (d_var 5)) a_nil)) (nomark _)) (d_one (d_eqA (cs := oC K) (g := adE K) (sp := spE K) bA (hr.mono (by decide)) hu tk (eqx_all T) (eq_all T) (d_var 7) (d_cmeth bA (hr.mono (by decide)) tk T.rd_Ordered T.cm_Ordered (ok_Listing_read T) (d_gC rfl T.g_Ordered) (a_cons (d_meth0 (cs := oC K) bA (hr.mono (by decide)) tk T.me_Listing_text (ok_Listing_text T) (d_var 7)) a_nil)) (nomark _))))))))))))))), ?_⟩
  intro ds M Q E _ h
  obtain ⟨p, rs, rfl, s3, ok, h11, q⟩ := h
  have hC : He.ga K "Rules" ∈ oC K := List.mem_cons_self
  have hO : He.ga K "Ordered" ∈ oC K := List.mem_cons_of_mem _ List.mem_cons_self
  have hn : ("text" : Str) ∉ (["kept"] : List Str) := by decide
  obtain ⟨h12, nd, okr⟩ := id ok
  refine ⟨_, rfl, _, rfl, rfl, p, rs, rfl, s3, ok, h11, fun os M3 sh3 ok2 => ?_⟩
  obtain ⟨h12o, ndo, oko⟩ := id ok2
  have hoks := okRules_of h12 okr nd
  have hoko := okRules_of h12o oko ndo
  refine ⟨rfl, _, rfl, rfl, rs, rfl, h12, okr, fun M4 f4 => ⟨rfl, _, rs, rfl, hC, hoks, ?_⟩⟩
  refine ⟨rfl, _, rfl, rfl, os, rfl, h12o, oko, fun M5 f5 => ⟨rfl, _, os, rfl, hC, hoko, ?_⟩⟩
  refine ⟨_, _, rfl, ?_⟩
  refine ⟨rfl, _, rfl, rfl, rs, rfl, h12, okr, fun M6 f6 => ⟨rfl, _, rs, rfl, hO, hoks, ?_⟩⟩
  refine ⟨rfl, _, rfl, rfl, os, rfl, h12o, oko, fun M7 f7 => ⟨rfl, _, os, rfl, hO, hoko, ?_⟩⟩
  refine ⟨_, _, rfl, ?_⟩
  have sh : Sh p M M7 := (((sh3.fr f4).fr f5).fr f6).fr f7
  have q : ∀ M', Fr M7 M' → Q (.bl true) M' := fun M' f => q M' (sh.fr f).1
  clear sh f4 f5 f6 f7 sh3
  refine ⟨_, rfl, rs, rfl, fun o1 p1 s1 => ?_⟩
  refine ⟨_, rfl, os, rfl, fun o2 p2 s2 => ?_⟩
  refine ⟨_, gEqB_lst (by decide) o1 o2, ?_⟩
  refine ⟨_, rfl, _, rfl, _, gEqB_lst (α := Rule) (by decide) rs os, ?_⟩
  refine ⟨_, _, rfl, ?_⟩
  have rok : ∀ (C : Addr) (xs : List Rule), C ∈ oC K → RightOk (oC K) (kept C xs) := fun C xs h => .inl ⟨_, _, _, rfl, h⟩
  refine ⟨_, rfl, _, rfl, _, _, _, rfl, rok _ os hC, hC, spe_R hC fun k1 g1 => ?_⟩
  refine ⟨_, rfl, _, rfl, _, _, _, rfl, rok _ rs hC, hC, spe_R hC fun k2 g2 => ?_⟩
  refine ⟨_, rfl, _, rfl, _, _, _, rfl, rok _ os hC, hC, spe_R hC fun k3 g3 => ⟨_, rfl, ?_⟩⟩
  refine ⟨_, rfl, _, rfl, _, _, _, rfl, rok _ os hO, hO, spe_O T hO fun k4 g4 => ?_⟩
  refine ⟨_, rfl, _, rfl, _, _, _, rfl, rok _ rs hO, hO, spe_O T hO fun k5 g5 => ?_⟩
  refine ⟨_, rfl, _, rfl, _, _, _, rfl, rok _ os hO, hO, spe_O T hO fun k6 g6 => ⟨_, rfl, ?_⟩⟩
  have ea : o1 = o2 ↔ rs.Perm os := ⟨fun e => by subst e; exact p1.symm.trans p2, fun pm => rules_sort pm p1 p2 s1 s2⟩
  have e1 : k1 = decide (o1 = o2) := by rw [Bool.eq_iff_iff, g1, decide_eq_true_iff, ea]
  have e2 : k2 = decide (o1 = o2) := by rw [Bool.eq_iff_iff, g2, decide_eq_true_iff, ea]; exact ⟨List.Perm.symm, List.Perm.symm⟩
  have e3 : k3 = decide (o1 = o2) := by rw [Bool.eq_iff_iff, g3, decide_eq_true_iff, ea]
  have e4 : k4 = decide (rs = os) := by rw [Bool.eq_iff_iff, g4, decide_eq_true_iff]
  have e5 : k5 = decide (rs = os) := by rw [Bool.eq_iff_iff, g5, decide_eq_true_iff]; exact ⟨Eq.symm, Eq.symm⟩
  have e6 : k6 = decide (rs = os) := by rw [Bool.eq_iff_iff, g6, decide_eq_true_iff]
  subst e1 e2 e3 e4 e5 e6
  refine ⟨by simp, ?_⟩
  generalize decide (o1 = o2) = a
  generalize decide (rs = os) = b
  obtain ⟨z, hz⟩ : ∃ z, gRepr [.lst [.bl a, .bl a, .bl (!a), .bl b, .bl b, .bl (!b)]] = some (.str z) := by
    refine (RS.lst (k := 0) (w := 8) fun d hd => ?_).repr (.inl ⟨_, rfl⟩) (by decide) (by simp)
    simp only [List.mem_cons, List.not_mem_nil, or_false] at hd
    rcases hd with rfl | rfl | rfl | rfl | rfl | rfl <;> exact rs_bl _
  refine ⟨_, rfl, _, rfl, _, rfl, _, rfl, _, rfl, _, rfl, _, rfl, _, rfl, _, rfl, by simp, rfl, _, _, z, rfl, hz, hz, _, rfl, ?_⟩
  refine iff_f rfl ?_
  refine ⟨_, rfl, _, T.k_RL, _, rfl, ?_⟩
  refine iff_f rfl ?_
  refine ⟨_, rfl, _, T.k_OL, _, rfl, ?_⟩
  refine iff_f rfl ?_
  refine ⟨_, rfl, _, rfl, _, _, _, rfl, rok _ rs hO, hC, spe_X T hC (isi_ko hO T.ko_OR) ⟨_, rfl, ?_⟩⟩
  refine iff_f rfl ?_
  refine ⟨_, rfl, _, rfl, _, _, _, rfl, rok _ rs hC, hO, spe_X T hO (isi_ko hC T.ko_RO) ⟨_, rfl, ?_⟩⟩
  refine iff_f rfl ?_
  refine ⟨_, rfl, _, rfl, _, _, _, rfl, rok _ rs hO, hC, spe_X T hC (isi_ko hO T.ko_OR) ⟨_, rfl, _, rfl, ?_⟩⟩
  refine iff_f rfl ?_
  refine ⟨_, rfl, hC, ?_⟩
  intro p1 hp1
  refine ⟨[.raw (.ref p1)], [], rfl, rfl, by simp, p1, _, [], rfl, updM_same, hC, by simp, by simp, rfl, rfl, _, updM_same, ?_⟩
  rw [updM_updM, delM_updM hp1]
  refine ⟨_, rfl, hO, ?_⟩
  intro p2 hp2
  refine ⟨[.raw (.ref p2)], [], rfl, rfl, by simp, p2, _, [], rfl, updM_same, hO, by simp, by simp, rfl, rfl, _, updM_same, ?_⟩
  rw [updM_updM, delM_updM hp2]
  refine ⟨_, _, _, rfl, rok _ [] hO, hC, spe_X (rs := []) T hC (isi_ko hO T.ko_OR) ⟨_, rfl, ?_⟩⟩
  refine iff_f rfl ?_
  have odd : ∀ (d : Dd) (t : String), kindD d = some t → (∀ M, der M d = d) → ∀ (C : Addr) M', C ∈ oC K → RightOk (oC K) (der M' d) ∧ gIsi K (isC K) [der M' d, .raw (.ref C)] = some (.bl false) := fun d t hk hd C M' hC => by
    rw [hd]
    refine ⟨.inr ⟨t, hk⟩, isi_kind hk ?_⟩
    rcases List.mem_cons.mp hC with rfl | hC
    · exact T.kt_Rules t (kindD_in hk)
    · cases List.mem_singleton.mp hC
      exact T.kt_Ordered t (kindD_in hk)
  refine ⟨_, rfl, _, _, _, rfl, hC, hn, rfl, _, rs, rfl, hC, h12, okr, ?_⟩
  refine ⟨_, rfl, _, _, _, rfl, hC, rfl, _, rs, rfl, hC, ?_⟩
  refine ⟨_, rfl, _, rfl, by simp, by simp, by simp, _, rfl, ?_⟩
  refine forGo_inv (I := fun ds sl M' => (∀ d ∈ ds, ∃ t, kindD d = some t ∧ ∀ M, der M d = d) ∧ M' = M7 ∧ ∃ (x4 : Option Dd), sl = [some (.raw (.ref p)), some (.lst (rs.map enc)), some (.lst (os.map enc)), some (.lst [.bl a, .bl a, .bl (!a), .bl b, .bl b, .bl (!b)]), x4, some (kept (He.ga K "Rules") rs), some (kept (He.ga K "Rules") os), some (kept (He.ga K "Ordered") rs), some (kept (He.ga K "Ordered") os), some (.bl a), some (.bl b)]) ?_
    ⟨?_, rfl, _, rfl⟩ ?_
  · rintro d ds sl M' N ⟨hd, rfl, x4, rfl⟩ kn
    obtain ⟨t, hk, hM⟩ := hd d List.mem_cons_self
    refine put_nm ?_
    have o1 := odd d t hk hM _ M' hC
    have o2 := odd d t hk hM _ M' hO
    refine ⟨_, rfl, _, rfl, _, _, _, rfl, o1.1, hC, spe_X T hC o1.2 ⟨_, rfl, ?_⟩⟩
    refine iff_f rfl ?_
    refine ⟨_, rfl, _, rfl, _, _, _, t, rfl, by rw [hM]; exact hk, hC, spe_X T hC o1.2 ⟨_, rfl, ?_⟩⟩
    refine iff_f rfl ?_
    refine ⟨_, rfl, _, rfl, _, _, _, rfl, o1.1, hC, spe_X T hC o1.2 ⟨_, rfl, _, rfl, ?_⟩⟩
    refine iff_f rfl ?_
    refine ⟨_, rfl, _, rfl, _, _, _, rfl, o2.1, hO, spe_X T hO o2.2 ⟨_, rfl, ?_⟩⟩
    refine iff_f rfl ?_
    refine ⟨_, rfl, _, rfl, _, _, _, rfl, o2.1, hO, spe_X T hO o2.2 ⟨_, rfl, _, rfl, ?_⟩⟩
    refine iff_f rfl ?_
    exact kn _ _ ⟨fun z hz => hd z (List.mem_cons_of_mem _ hz), rfl, _, rfl⟩
  · intro d hd
    simp only [List.mem_cons, List.not_mem_nil, or_false] at hd
    rcases hd with rfl | rfl | rfl | rfl | rfl | rfl | rfl | rfl | rfl | rfl <;> exact ⟨_, rfl, fun _ => rfl⟩
  · rintro sl M' ⟨hd, rfl, x4, rfl⟩
    refine ⟨_, rfl, rfl, _, rfl, _, _, _, rfl, hC, hn, rfl, _, rs, rfl, hC, h12, okr, rfl, _, rs, rfl, hC, hoks, ?_⟩
    refine ⟨_, _, _, rfl, rok _ rs hC, hC, spe_R hC fun k1 g1 => ?_⟩
    obtain rfl : k1 = true := g1.mpr (List.Perm.refl _)
    refine ⟨_, rfl, ?_⟩
    refine iff_t rfl ?_
    refine ⟨_, rfl, rfl, _, rfl, _, _, _, rfl, hO, hn, rfl, _, rs, rfl, hO, h12, okr, rfl, _, rs, rfl, hO, hoks, ?_⟩
    refine ⟨_, _, _, rfl, rok _ rs hO, hO, spe_O T hO fun k1 g1 => ?_⟩
    obtain rfl : k1 = true := g1.mpr rfl
    exact q _ fun _ _ h => h
def sp_law (K : PySem.W.Frag) : DSp := fun ds _ Q _ => ∃ ns : List Int, ds = [.scr K ns] ∧ ∀ M', Q (.bl true) M'
theorem sc_law : FnScope ["_law_script", "_law_k", "_law_source_here", "_law_lap"] ["_law_script"] (defScope (top 49)) := ⟨rfl, rfl, rfl, by decide +kernel, rfl, by decide +kernel, by decide +kernel⟩
theorem ok_law (T : Fx K mg) : Fn true P w K mg base "law" 1 11 (sp_law K) := by
  have S := sc_law
  refine fn_top T.d_law S rfl (fun _ _ _ _ _ _ us hl => match us, hl with | [_], _ => rfl) ⟨_, fun cdv A outer s H E bA hr tk po => have hu := hu_ok hr; (ss_one (s_try (ss_cons (s_for po_nox rfl (i_range1 rfl (T.free "range" rfl) (a_cons (d_callB (id := "max") (c_max2 rfl) rfl (T.free "max" rfl) (by kernel_rfl) (a_cons d_int (a_cons (d_callB (id := "min") (c_min2 rfl) rfl (T.free "min" rfl) (by kernel_rfl) (a_cons (d_lenS (K := K) rfl rfl (T.free "len" rfl) (a_cons (d_var 0) a_nil)) (a_cons d_int a_nil))) a_nil))) a_nil)) (g_name (i := 1) S.nd rfl (Or.inl rfl))
  (ss_cons (s_set (i := 2) S.nd rfl (Or.inl rfl) (d_call (ok__law_source T) bA (hr.mono (by decide)) tk0 rfl (a_cons (d_call (ok__law_cell T) bA (hr.mono (by decide)) tk0 rfl (a_cons (d_var 0) (a_cons (d_var 1) a_nil))) a_nil)))
  (ss_one (s_for po_nox rfl (i_range1 rfl (T.free "range" rfl) (a_cons d_int a_nil)) (g_name (i := 3) S.nd rfl (Or.inl rfl))
  (ss_one (s_if (t_not (t_val (d_call (ok__law_is_right T) bA (hr.mono (by decide)) tk0 rfl (a_cons (d_var 2) (a_cons (d_call (ok__law_some T) bA (hr.mono (by decide)) tk0 rfl (a_cons (d_var 2) (a_cons (d_call (ok__law_choose T) bA (hr.mono (by decide)) tk0 rfl (a_cons (d_var 2) (a_cons (d_lst (a_cons d_int (a_cons d_int (a_cons d_int a_nil)))) a_nil))) a_nil))) a_nil)))))
  (ss_one (s_ret d_bl))
  ss_nil))))))
  (ss_one (s_ret d_bl))))), ?_⟩
  intro ds M Q E _ h
  obtain ⟨ns, rfl, q⟩ := h
  refine ⟨_, rfl, ns, rfl, _, rfl, _, rfl, _, rfl, by split <;> (try split) <;> omega, by split <;> (try split) <;> omega, ?_⟩
  refine forGo_inv (I := fun ds sl _ => (∀ d ∈ ds, ∃ i : Int, d = .int i ∧ 0 ≤ i) ∧ ∃ (x1 x2 x3 : Option Dd), sl = [some (.scr K ns), x1, x2, x3]) ?_
    ⟨fun d hd => (by
      unfold rng at hd
      obtain ⟨i, _, rfl⟩ := List.mem_map.mp hd
      exact ⟨_, rfl, by omega⟩), _, _, _, rfl⟩ ?_
  case refine_2 =>
    rintro sl M' ⟨_, x1, x2, x3, rfl⟩
    exact q M'
  rintro d ds sl M1 N ⟨hd, x1, x2, x3, rfl⟩ kn
  obtain ⟨i, rfl, hi⟩ := hd d List.mem_cons_self
  have hds : ∀ d ∈ ds, ∃ i : Int, d = .int i ∧ 0 ≤ i := fun z hz => hd z (List.mem_cons_of_mem _ hz)
  refine put_nm ?_
  refine ⟨_, rfl, _, rfl, rfl, ns, i, rfl, hi, fun n => ⟨rfl, n, rfl, fun p M2 _ s3 _ => ?_⟩⟩
  refine ⟨_, rfl, by decide, by decide, ?_⟩
  refine forGo_inv (I := fun ds sl M' => S3 M' p ∧ ∃ (x3 : Option Dd), sl = [some (.scr K ns), some (.int i), some (.raw (.ref p)), x3]) ?_ ⟨s3, _, rfl⟩ ?_
  case refine_2 =>
    rintro sl M' ⟨_, x3, rfl⟩
    exact kn _ _ ⟨hds, _, _, _, rfl⟩
  clear kn s3
  rintro d2 ds2 sl M1 N ⟨s3, x3, rfl⟩ kn
  refine put_nm ?_
  refine ⟨_, rfl, _, rfl, _, rfl, by simp, ?_⟩
  refine ⟨rfl, p, _, [.int 2, .int 5, .int 11], rfl, s3, by simp, by simp, fun _ _ => .inl rfl, fun x hx M2 s2 => ?_⟩
  obtain ⟨m, rfl, m0, m11⟩ : ∃ m : Int, x = .int m ∧ 0 ≤ m ∧ m ≤ 11 := by
    simp only [List.mem_cons, List.not_mem_nil, or_false] at hx
    rcases hx with rfl | rfl | rfl
    · exact ⟨2, rfl, by decide, by decide⟩
    · exact ⟨5, rfl, by decide, by decide⟩
    · exact ⟨11, rfl, by decide, by decide⟩
  refine ⟨rfl, p, m, rfl, s2.1, m0, by omega, fun rs M4 s4 hm nd good => ?_⟩
  have okr : ∀ r ∈ rs, okRule r = true := fun r hr => (good r hr).ok (by decide) (by decide)
  refine ⟨rfl, p, rs, rfl, s4.1, ⟨by omega, nd, okr⟩, by omega, fun M8 f8 => ⟨_, rfl, ?_⟩⟩
  refine iff_f rfl ?_
  exact kn _ _ ⟨f8, _, rfl⟩
end
end My
namespace My
open PySem PySem.Spec PyProof.Rows L2 DL Enc
def ckEX (C g : PySem.W.Frag → Addr) (cs : PySem.W.Frag → List Addr) (K : PySem.W.Frag) : Bool := decide (PySem.W.mroIn K (C K) (.type "object") = some true) && He.eqO (PySem.W.findIn K (.ref (C K)) "__ne__") (some (some (.builtin "object.__ne__"))) && He.eqO (PySem.W.findIn K (.ref (C K)) "__eq__") (some (some (.ref (g K)))) && PySem.W.isFn K (.ref (g K)) &&
  oddK.all (fun T => decide (PySem.W.subIn K (.type T) (.ref (C K)) = some false)) && (cs K).all (fun D => decide (D = C K) || decide (PySem.W.subIn K (.ref D) (.ref (C K)) = some false))
theorem ckEX_ok {C g : PySem.W.Frag → Addr} {cs : PySem.W.Frag → List Addr} {K : PySem.W.Frag} (h : ckEX C g cs K = true) : EqX K (cs K) (C K) (g K) := by
  simp only [ckEX, Bool.and_eq_true, List.all_eq_true, Bool.or_eq_true, decide_eq_true_eq] at h
  exact ⟨⟨h.1.1.1.1.1, He.eqO_ok h.1.1.1.1.2, He.eqO_ok h.1.1.1.2, h.1.1.2⟩, h.1.2, fun D hD ne => (h.2 D hD).resolve_left ne⟩
def ckSup (C : PySem.W.Frag → Addr) (K : PySem.W.Frag) : Bool := oddK.all fun T => decide (PySem.W.subIn K (.ref (C K)) (.type T) = some false)
theorem ckSup_ok {C : PySem.W.Frag → Addr} {K : PySem.W.Frag} (h : ckSup C K = true) : ∀ T ∈ oddK, PySem.W.subIn K (.ref (C K)) (.type T) = some false := fun T hT => of_decide_eq_true (List.all_eq_true.mp h T hT)
def ckKT (C : PySem.W.Frag → Addr) (K : PySem.W.Frag) : Bool := oddK.all fun T => decide (PySem.W.kitOne K (.type T) (.ref (C K)) = some false)
theorem ckKT_ok {C : PySem.W.Frag → Addr} {K : PySem.W.Frag} (h : ckKT C K = true) : ∀ T ∈ oddK, PySem.W.kitOne K (.type T) (.ref (C K)) = some false := fun T hT => of_decide_eq_true (List.all_eq_true.mp h T hT)
def ckMe (C : PySem.W.Frag → Addr) (m : Str) (g : PySem.W.Frag → Addr) (K : PySem.W.Frag) : Bool := He.eqO (PySem.W.findIn K (.ref (C K)) m) (some (some (.ref (g K)))) && PySem.W.isFn K (.ref (g K)) && PySem.W.keepIn K (.ref (g K))
theorem ckMe_ok {C g : PySem.W.Frag → Addr} {m : Str} {K : PySem.W.Frag} (h : ckMe C m g K = true) : Meth K (C K) m (g K) := by
  simp only [ckMe, Bool.and_eq_true] at h
  exact ⟨He.eqO_ok h.1.1, h.1.2, h.2⟩
def cks : List Ck := [ckF freeN,
  fun K => (He.Fa.int "MOST_RULES" 12).ok K,
  fun K => (He.Fa.int "MOST_ATTRIBUTE" 4).ok K,
  fun K => (He.Fa.int "MOST_VALUE" 9).ok K,
  fun K => (He.Fa.int "MOST_RESULT" 99).ok K,
  fun K => (He.Fa.str "DIGITS" "0123456789").ok K,
  fun K => (He.Fa.glo "Ordered").ok K,
  fun K => (He.Fa.glo "Rules").ok K,
  fun K => (He.Fa.glo "Listing").ok K,
  ckX "NoRules",
  ckX "NoText",
  fun K => (He.Fa.glo "RuleError").ok K,
  ckC (fun K => He.ga K "Rules"),
  ckMe (fun K => He.ga K "Rules") "text" ad_Listing_text,
  ckC (fun K => He.ga K "Ordered"),
  ckMe (fun K => He.ga K "Ordered") "text" ad_Listing_text,
  ckKT (fun K => He.ga K "Rules"),
  ckKT (fun K => He.ga K "Ordered"),
  ckK (fun K => He.ga K "Rules") (fun K => He.ga K "Ordered") false,
  ckK (fun K => He.ga K "Ordered") (fun K => He.ga K "Rules") false,
  fun K => decide (He.ga K "Ordered" ≠ He.ga K "Rules"),
  ckEX (fun K => He.ga K "Rules") ad_Rules___eq__ oC,
  ckSup (fun K => He.ga K "Rules"),
  ckEX (fun K => He.ga K "Ordered") ad_Ordered___eq__ oC,
  ckSup (fun K => He.ga K "Ordered"),
  ckI (fun K => He.ga K "Rules"),
  ckI (fun K => He.ga K "Ordered"),
  ckK (fun K => He.ga K "Ordered") (fun K => He.ga K "Listing") true,
  ckK (fun K => He.ga K "Rules") (fun K => He.ga K "Listing") true,
  ckC (fun K => He.ga K "Rules"),
  ckN (fun K => He.ga K "Rules") "kept",
  ckC (fun K => He.ga K "Ordered"),
  ckN (fun K => He.ga K "Ordered") "kept",
  ckM (fun K => He.ga K "Rules") ad_Listing___init__,
  ckM (fun K => He.ga K "Ordered") ad_Listing___init__,
  ckR (fun K => He.ga K "Rules"),
  ckCM (fun K => He.ga K "Rules") (fun K => He.ma K (He.ga K "Rules") "read") "read",
  ckR (fun K => He.ga K "Ordered"),
  ckCM (fun K => He.ga K "Ordered") (fun K => He.ma K (He.ga K "Rules") "read") "read",
  ckC (fun K => He.ga K "Rules"),
  ckP (fun K => He.ga K "Rules") (fun K => He.ma K (He.ga K "Rules") "rules") "rules",
  ckC (fun K => He.ga K "Ordered"),
  ckP (fun K => He.ga K "Ordered") (fun K => He.ma K (He.ga K "Rules") "rules") "rules",
  fun K => (He.Fa.glo "is_between").ok K,
  fun K => (He.Fa.glo "is_condition").ok K,
  fun K => (He.Fa.glo "is_case").ok K,
  fun K => (He.Fa.glo "is_rule").ok K,
  fun K => (He.Fa.glo "are_rules").ok K,
  fun K => (He.Fa.glo "condition_of").ok K,
  fun K => (He.Fa.glo "result_of").ok K,
  fun K => (He.Fa.glo "rule_of").ok K,
  fun K => (He.Fa.glo "line_of").ok K,
  fun K => (He.Fa.glo "_law_cell").ok K,
  fun K => (He.Fa.glo "_law_source").ok K,
  fun K => (He.Fa.glo "_law_draw").ok K,
  fun K => (He.Fa.glo "_law_choose").ok K,
  fun K => (He.Fa.glo "_law_is_equal").ok K,
  fun K => (He.Fa.glo "_law_case").ok K,
  fun K => (He.Fa.glo "_law_part").ok K,
  fun K => (He.Fa.glo "_law_some").ok K,
  fun K => (He.Fa.glo "_law_text").ok K,
  fun K => (He.Fa.glo "_law_near").ok K,
  fun K => (He.Fa.glo "_law_is_right").ok K,
  fun K => (He.Fa.glo "law").ok K]
def fnA : List He5.DefA := [⟨fun K => He.ga K "is_between", "is_between", "is_between", defArgs (top 20), defBody (top 20), defScope (top 20), [], []⟩,
  ⟨fun K => He.ga K "is_condition", "is_condition", "is_condition", defArgs (top 21), defBody (top 21), defScope (top 21), [], []⟩,
  ⟨fun K => He.ga K "is_case", "is_case", "is_case", defArgs (top 22), defBody (top 22), defScope (top 22), [], []⟩,
  ⟨fun K => He.ga K "is_rule", "is_rule", "is_rule", defArgs (top 23), defBody (top 23), defScope (top 23), [], []⟩,
  ⟨fun K => He.ga K "are_rules", "are_rules", "are_rules", defArgs (top 24), defBody (top 24), defScope (top 24), [], []⟩,
  ⟨fun K => He.ga K "condition_of", "condition_of", "condition_of", defArgs (top 26), defBody (top 26), defScope (top 26), [], []⟩,
  ⟨fun K => He.ga K "result_of", "result_of", "result_of", defArgs (top 27), defBody (top 27), defScope (top 27), [], []⟩,
  ⟨fun K => He.ga K "rule_of", "rule_of", "rule_of", defArgs (top 28), defBody (top 28), defScope (top 28), [], []⟩,
  ⟨fun K => He.ga K "line_of", "line_of", "line_of", defArgs (top 29), defBody (top 29), defScope (top 29), [], []⟩,
  ⟨ad_Listing___init__, "__init__", "Listing.__init__", defArgs (inn 30 1), defBody (inn 30 1), defScope (inn 30 1), [], []⟩,
  ⟨ad_Listing_read, "read", "Listing.read", defArgs (inn 30 2), defBody (inn 30 2), defScope (inn 30 2), [], []⟩,
  ⟨ad_Listing_text, "text", "Listing.text", defArgs (inn 30 3), defBody (inn 30 3), defScope (inn 30 3), [], []⟩,
  ⟨ad_Listing_rules, "rules", "Listing.rules", defArgs (inn 30 4), defBody (inn 30 4), defScope (inn 30 4), [], []⟩,
  ⟨ad_Rules___eq__, "__eq__", "Rules.__eq__", defArgs (inn 31 4), defBody (inn 31 4), defScope (inn 31 4), [], []⟩,
  ⟨ad_Ordered___eq__, "__eq__", "Ordered.__eq__", defArgs (inn 32 3), defBody (inn 32 3), defScope (inn 32 3), [], []⟩,
  ⟨fun K => He.ga K "_law_cell", "_law_cell", "_law_cell", defArgs (top 38), defBody (top 38), defScope (top 38), [], []⟩,
  ⟨fun K => He.ga K "_law_source", "_law_source", "_law_source", defArgs (top 39), defBody (top 39), defScope (top 39), [], []⟩,
  ⟨fun K => He.ga K "_law_draw", "_law_draw", "_law_draw", defArgs (top 40), defBody (top 40), defScope (top 40), [], []⟩,
  ⟨fun K => He.ga K "_law_choose", "_law_choose", "_law_choose", defArgs (top 41), defBody (top 41), defScope (top 41), [], []⟩,
  ⟨fun K => He.ga K "_law_is_equal", "_law_is_equal", "_law_is_equal", defArgs (top 42), defBody (top 42), defScope (top 42), [], []⟩,
  ⟨fun K => He.ga K "_law_case", "_law_case", "_law_case", defArgs (top 43), defBody (top 43), defScope (top 43), [], []⟩,
  ⟨fun K => He.ga K "_law_part", "_law_part", "_law_part", defArgs (top 44), defBody (top 44), defScope (top 44), [], []⟩,
  ⟨fun K => He.ga K "_law_some", "_law_some", "_law_some", defArgs (top 45), defBody (top 45), defScope (top 45), [], []⟩,
  ⟨fun K => He.ga K "_law_text", "_law_text", "_law_text", defArgs (top 46), defBody (top 46), defScope (top 46), [], []⟩,
  ⟨fun K => He.ga K "_law_near", "_law_near", "_law_near", defArgs (top 47), defBody (top 47), defScope (top 47), [], []⟩,
  ⟨fun K => He.ga K "_law_is_right", "_law_is_right", "_law_is_right", defArgs (top 48), defBody (top 48), defScope (top 48), [], []⟩,
  ⟨fun K => He.ga K "law", "law", "law", defArgs (top 49), defBody (top 49), defScope (top 49), [], []⟩]
theorem facts {K : PySem.W.Frag} {h : Heap} {mg : Str → Option Value} (X : K.In h) (G : h.Ns mainGlobals mg) (c : SaysC cks fnA K) : Fx K mg where
  free := fun x hx => ckF_ok X G (c.ck 0) x hx
  c_MOST_RULES := He.int_ok X G (c.ck 1)
  c_MOST_ATTRIBUTE := He.int_ok X G (c.ck 2)
  c_MOST_VALUE := He.int_ok X G (c.ck 3)
  c_MOST_RESULT := He.int_ok X G (c.ck 4)
  c_DIGITS := He.str_ok X G (c.ck 5)
  g_Ordered := He.glo_ok X G (c.ck 6)
  g_Rules := He.glo_ok X G (c.ck 7)
  g_Listing := He.glo_ok X G (c.ck 8)
  x_NoRules := ckX_ok X G (c.ck 9)
  x_NoText := ckX_ok X G (c.ck 10)
  g_RuleError := He.glo_ok X G (c.ck 11)
  me_Listing_text := fun C h => by
    rcases List.mem_cons.mp h with h | h
    · subst h; exact ⟨ckC_ok (C := (fun K => He.ga K "Rules")) (c.ck 12), ckMe_ok (C := (fun K => He.ga K "Rules")) (g := ad_Listing_text) (c.ck 13)⟩
    · cases List.mem_singleton.mp h; exact ⟨ckC_ok (C := (fun K => He.ga K "Ordered")) (c.ck 14), ckMe_ok (C := (fun K => He.ga K "Ordered")) (g := ad_Listing_text) (c.ck 15)⟩
  kt_Rules := ckKT_ok (C := (fun K => He.ga K "Rules")) (c.ck 16)
  kt_Ordered := ckKT_ok (C := (fun K => He.ga K "Ordered")) (c.ck 17)
  ko_RO := ckK_ok (C := (fun K => He.ga K "Rules")) (D := (fun K => He.ga K "Ordered")) (c.ck 18)
  ko_OR := ckK_ok (C := (fun K => He.ga K "Ordered")) (D := (fun K => He.ga K "Rules")) (c.ck 19)
  ne_cls := of_decide_eq_true (c.ck 20)
  eqx_Rules := ckEX_ok (C := (fun K => He.ga K "Rules")) (g := ad_Rules___eq__) (cs := oC) (c.ck 21)
  sup_Rules := ckSup_ok (C := (fun K => He.ga K "Rules")) (c.ck 22)
  eqx_Ordered := ckEX_ok (C := (fun K => He.ga K "Ordered")) (g := ad_Ordered___eq__) (cs := oC) (c.ck 23)
  sup_Ordered := ckSup_ok (C := (fun K => He.ga K "Ordered")) (c.ck 24)
  isi := fun C h => by
    rcases List.mem_cons.mp h with h | h
    · subst h; exact ckI_ok (C := (fun K => He.ga K "Rules")) (c.ck 25)
    · cases List.mem_singleton.mp h; exact ckI_ok (C := (fun K => He.ga K "Ordered")) (c.ck 26)
  k_OL := by
    intro ks xs
    have z := ckK_ok (C := (fun K => He.ga K "Ordered")) (D := (fun K => He.ga K "Listing")) (c.ck 27)
    simp only [gIsi, tyD, clsD, isC, oC, List.mem_cons, true_or, or_true, if_true, Option.bind_some]
    rw [z]
    rfl
  k_RL := by
    intro ks xs
    have z := ckK_ok (C := (fun K => He.ga K "Rules")) (D := (fun K => He.ga K "Listing")) (c.ck 28)
    simp only [gIsi, tyD, clsD, isC, oC, List.mem_cons, true_or, or_true, if_true, Option.bind_some]
    rw [z]
    rfl
  fl_kept := fun C h => by
    rcases List.mem_cons.mp h with h | h
    · subst h; exact ⟨ckC_ok (C := (fun K => He.ga K "Rules")) (c.ck 29), ckN_ok (C := (fun K => He.ga K "Rules")) (c.ck 30)⟩
    · cases List.mem_singleton.mp h; exact ⟨ckC_ok (C := (fun K => He.ga K "Ordered")) (c.ck 31), ckN_ok (C := (fun K => He.ga K "Ordered")) (c.ck 32)⟩
  mkA := fun C h => by
    rcases List.mem_cons.mp h with h | h
    · subst h; exact ckM_ok (C := (fun K => He.ga K "Rules")) (g := ad_Listing___init__) (c.ck 33)
    · cases List.mem_singleton.mp h; exact ckM_ok (C := (fun K => He.ga K "Ordered")) (g := ad_Listing___init__) (c.ck 34)
  rd_Rules := ckR_ok (C := (fun K => He.ga K "Rules")) (c.ck 35)
  cm_Rules := ckCM_ok (C := (fun K => He.ga K "Rules")) (p := fun K => He.ma K (He.ga K "Rules") "read") (c.ck 36)
  rd_Ordered := ckR_ok (C := (fun K => He.ga K "Ordered")) (c.ck 37)
  cm_Ordered := ckCM_ok (C := (fun K => He.ga K "Ordered")) (p := fun K => He.ma K (He.ga K "Rules") "read") (c.ck 38)
  pr_rules := fun C h => by
    rcases List.mem_cons.mp h with h | h
    · subst h; exact ⟨ckC_ok (C := (fun K => He.ga K "Rules")) (c.ck 39), ckP_ok (C := (fun K => He.ga K "Rules")) (p := fun K => He.ma K (He.ga K "Rules") "rules") (c.ck 40)⟩
    · cases List.mem_singleton.mp h; exact ⟨ckC_ok (C := (fun K => He.ga K "Ordered")) (c.ck 41), ckP_ok (C := (fun K => He.ga K "Ordered")) (p := fun K => He.ma K (He.ga K "Rules") "rules") (c.ck 42)⟩
  d_is_between := ⟨c.df 0, He.glo_ok X G (c.ck 43)⟩
  d_is_condition := ⟨c.df 1, He.glo_ok X G (c.ck 44)⟩
  d_is_case := ⟨c.df 2, He.glo_ok X G (c.ck 45)⟩
  d_is_rule := ⟨c.df 3, He.glo_ok X G (c.ck 46)⟩
  d_are_rules := ⟨c.df 4, He.glo_ok X G (c.ck 47)⟩
  d_condition_of := ⟨c.df 5, He.glo_ok X G (c.ck 48)⟩
  d_result_of := ⟨c.df 6, He.glo_ok X G (c.ck 49)⟩
  d_rule_of := ⟨c.df 7, He.glo_ok X G (c.ck 50)⟩
  d_line_of := ⟨c.df 8, He.glo_ok X G (c.ck 51)⟩
  d_Listing___init__ := c.df 9
  d_Listing_read := c.df 10
  d_Listing_text := c.df 11
  d_Listing_rules := c.df 12
  d_Rules___eq__ := c.df 13
  d_Ordered___eq__ := c.df 14
  d__law_cell := ⟨c.df 15, He.glo_ok X G (c.ck 52)⟩
  d__law_source := ⟨c.df 16, He.glo_ok X G (c.ck 53)⟩
  d__law_draw := ⟨c.df 17, He.glo_ok X G (c.ck 54)⟩
  d__law_choose := ⟨c.df 18, He.glo_ok X G (c.ck 55)⟩
  d__law_is_equal := ⟨c.df 19, He.glo_ok X G (c.ck 56)⟩
  d__law_case := ⟨c.df 20, He.glo_ok X G (c.ck 57)⟩
  d__law_part := ⟨c.df 21, He.glo_ok X G (c.ck 58)⟩
  d__law_some := ⟨c.df 22, He.glo_ok X G (c.ck 59)⟩
  d__law_text := ⟨c.df 23, He.glo_ok X G (c.ck 60)⟩
  d__law_near := ⟨c.df 24, He.glo_ok X G (c.ck 61)⟩
  d__law_is_right := ⟨c.df 25, He.glo_ok X G (c.ck 62)⟩
  d_law := ⟨c.df 26, He.glo_ok X G (c.ck 63)⟩
abbrev R : PySem.W.OpenRow := PySem.W.OpenLaw.row PySem.Challenge.rw_closestrule_k03_equal_lists
abbrev hk : PySem.W.Hook := hookC 5 cks fnA
def ob (s : PySem.W.SharedT) : He.AlD := seeG 5 cks fnA (HandSHeadRun.getT s)
theorem ob_eq (s : PySem.W.SharedT) : ob s = hk.obs s.abs := seeG_eq (HandSHeadRun.getT_eq s)
def names0 : List PySem.Str := ["_wall", "within", "is_strictly_within", "deciders", "results_of", "RuleError", "NoRules", "NoCase", "NoText", "NotRules", "NotOrdered", "TooMany", "MOST_RULES", "MOST_ATTRIBUTE", "MOST_VALUE", "MOST_RESULT", "DIGITS", "is_between", "is_condition", "is_case", "is_rule", "are_rules", "need_case", "condition_of", "result_of"]
def names1 : List PySem.Str := ["rule_of", "line_of", "Listing", "Rules", "Ordered", "first_result", "joined", "need_rules", "need_ordered", "_law_cell", "_law_source", "_law_draw", "_law_choose", "_law_is_equal", "_law_case", "_law_part", "_law_some", "_law_text", "_law_near", "_law_is_right"]
def names : List PySem.Str := names0 ++ names1
theorem run (w : World) : HandSHeadRun.RunEq R (PySem.W.view R.prog [49]) hk ob 20000 names w := by
  intro os
  kernel_rfl
end My
open PySem PySem.W PySem.Calls PyProof.Rows
theorem PySem.Challenge.cw_closestrule_k03_equal_lists_holds : PySem.Challenge.rw_closestrule_k03_equal_lists.Holds := by
  w_on; o_law
  refine HandSHeadRun.head_any (r := OpenLaw.row PySem.Challenge.rw_closestrule_k03_equal_lists) (q := view (OpenLaw.row PySem.Challenge.rw_closestrule_k03_equal_lists).prog [49]) (H := My.hk) (ob := My.ob) (M := 20000) (loose := My.names) (d := HandSHeadRun.topDef (OpenLaw.row PySem.Challenge.rw_closestrule_k03_equal_lists).prog 49) (kwd := []) My.ob_eq
    (by kernel_rfl) (fun s => by kernel_rfl) My.run (by kernel_rfl) (by kernel_rfl) (by kernel_rfl) (by rfl) (by first | assumption | decide +kernel) (by decide +kernel) ⟨rfl, rfl, rfl, rfl, rfl, by decide +kernel⟩ ?hw ?hc
  case hw => w_witness2
  case hc =>
    refine DL.walkG (bm := true) (l := PySem.Challenge.rw_closestrule_k03_equal_lists) (n := 63) (k := 11) rfl (by decide) (by kernel_rfl) ⟨rfl, by decide, by decide⟩ ?F
    intro w mg f h Y G hmg0
    obtain ⟨K, KX, c⟩ := Y
    have hmg : mg ("law" : PySem.Str) = some (.ref f) := by
      have e : (HandSHeadRun.topDef (OpenLaw.row PySem.Challenge.rw_closestrule_k03_equal_lists).prog 49).name = ("law" : PySem.Str) := by kernel_rfl
      rw [← e]
      exact hmg0
    have T := My.facts KX G c
    refine ⟨K, DL.lift 1 (My.sp_law K), KX, fun H a ns _ sq => DL.lawD (fun ns M Q E q => ⟨ns, rfl, q⟩) H a ns sq, fun base _ _ => ?_⟩
    obtain ⟨g, F, hg, _⟩ := (My.ok_law (P := (PySem.Challenge.rw_closestrule_k03_equal_lists).prog) (w := w) (base := base) T).ex
    rw [hmg] at hg
    cases hg
    exact F
