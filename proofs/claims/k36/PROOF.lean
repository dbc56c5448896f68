import PyProof.Rows.All
import Wide.All
import OpenK.AllK
import Wide.FinOn
import HandS.ForMost
import HandS.Wide
import HandS.WideBits
import HandS.TupAny
import HandS.TupLe
import HandS.TupMul
import HandS.Deep
import HandS.Style
import HandS.Conv
import HandS.SortInts
import HandS.Strs
import HandS.Zip
import KE.GoesEnum
import KE.KRevSl
import HandS.IsInst
import HandS.SetFor
import KE.SortData
import HandS.DictComp
import KE.KDictMeth
import HandS.WordsDict
import HandS.TupLen
import PySem.Challenge.RW_nearlists_k36_whole_growths
set_option Elab.async false
set_option linter.all false
set_option maxRecDepth 100000
set_option maxHeartbeats 4000000
set_option exponentiation.threshold 400
/-! A layer without a heap over the hand layer: values are data (PyData), a def's names are slots, what runs is told by predicate transformers over them. -/
namespace DL
open PySem PySem.Spec PyProof.Rows L2

abbrev D := PyData
/-- what an argument is: a datum, or the source of drawn numbers -/
inductive Ar where
  | d (x : D) | dk
/-- what a name holds: nothing known; a datum; a list of its own (it may be changed); the source of drawn numbers; a dict of its own (t: its keys are tuples) -/
inductive Slot where
  | nil | val (d : D) | own (ds : List D) | deck | dct (t : Bool) (kvs : List (D × D))
abbrev DkA := Option (Addr × Addr)
abbrev Envd := List Slot

/-- a kind of source of drawn numbers: how it lies at two addresses -/
structure DKd where
  lies : Hp → Addr → Addr → Prop
  loc : ∀ {H H' : Hp} {p g : Addr}, H p = H' p → H g = H' g → lies H p g → lies H' p g
  fstS : ∀ {H : Hp} {p g : Addr}, lies H p g → H p ≠ none
  sndS : ∀ {H : Hp} {p g : Addr}, lies H p g → H g ≠ none
def dkMem : DkA → Addr → Prop
  | none, _ => False
  | some (p, g), b => b = p ∨ b = g

/-! ### how a datum lies in a heap: lists are tracked ones -/
/-- the dicts that may stand among data: an empty one, one of a text and an int -/
inductive Dk : List (Key × V) → List (D × D) → Prop
  | nil : Dk [] []
  | one (x : Str) (i : Int) : Dk [(.inr x, .int i)] [(.str x, .int i)]
mutual
inductive Rv (K : PySem.W.Frag) (H : Hp) : V → D → Prop
  | non : Rv K H .non .none
  | bl (b : Bool) : Rv K H (.bl b) (.bool b)
  | int (i : Int) : Rv K H (.int i) (.int i)
  | str (x : Str) : Rv K H (.str x) (.str x)
  | lst {a : Addr} {xs : List V} {ds : List D} : H a = some (.lst xs) → Rvs K H xs ds → Rv K H (.ref a) (.list ds)
  | tup {a : Addr} {xs : List V} {ds : List D} : H a = some (.tup xs) → Rvs K H xs ds → Rv K H (.ref a) (.tuple ds)
  | dic {a : Addr} {kvs : List (Key × V)} {ks : List (D × D)} : H a = some (.dK kvs) → Dk kvs ks → Rv K H (.ref a) (.dict ks)
inductive Rvs (K : PySem.W.Frag) (H : Hp) : List V → List D → Prop
  | nil : Rvs K H [] []
  | cons {v : V} {vs : List V} {d : D} {ds : List D} : Rv K H v d → Rvs K H vs ds → Rvs K H (v :: vs) (d :: ds)
end
mutual
theorem Rv.dp0 {K : PySem.W.Frag} {H : Hp} : ∀ (d : D) (v : V), d.canLay0 = true → Rv K H v d → Dp K H v d
  | _, _, _, .non => .non
  | _, _, _, .bl b => .bl b
  | _, _, _, .int i => .int i
  | _, _, _, .str x => .str x
  | .list ds, _, c, .lst h q => .lst (SqL.of h) (Rvs.dp0 ds _ (by simpa only [PyData.canLay0] using c) q)
  | .tuple ds, _, c, .tup h q => .tup (SqT.of h) (Rvs.dp0 ds _ (by simpa only [PyData.canLay0] using c) q)
theorem Rvs.dp0 {K : PySem.W.Frag} {H : Hp} : ∀ (ds : List D) (vs : List V), PyData.canLayAll0 ds = true → Rvs K H vs ds → DpAll K H vs ds
  | _, _, _, .nil => .nil
  | d :: ds, _, c, .cons h q => by
    have c' : (d.canLay0 && PyData.canLayAll0 ds) = true := by simpa only [PyData.canLayAll0] using c
    obtain ⟨c1, c2⟩ := Bool.and_eq_true_iff.mp c'
    exact .cons (Rv.dp0 d _ c1 h) (Rvs.dp0 ds _ c2 q)
end
theorem Rv.dpS {K : PySem.W.Frag} {H : Hp} {d : D} {v : V} (h : Rv K H v d) (c : SeqAt.shaped d = true) : Dp K H v d := Rv.dp0 d v (SeqAt.canLay_of_shaped c) h

/-! ### data stay where nothing tracked changes -/
theorem same_seqT {K : PySem.W.Frag} {H H' : Hp} {a : Addr} {xs : List V} (e : Same H H') (h : SqT K H a xs) : SqT K H' a xs := by
  rcases h with (h | ⟨o, h⟩) | h
  · exact .inl (.inl (e _ _ h))
  · exact .inl (.inr ⟨o, e _ _ h⟩)
  · exact .inr h
mutual
theorem dp_same {K : PySem.W.Frag} {H H' : Hp} (e : Same H H') : ∀ (d : D) (v : V), Rv K H v d → Rv K H' v d
  | _, _, .non => .non
  | _, _, .bl b => .bl b
  | _, _, .int i => .int i
  | _, _, .str x => .str x
  | .list ds, _, .lst h q => .lst (e _ _ h) (dps_same e ds _ q)
  | .tuple ds, _, .tup h q => .tup (e _ _ h) (dps_same e ds _ q)
  | _, _, .dic h q => .dic (e _ _ h) q
theorem dps_same {K : PySem.W.Frag} {H H' : Hp} (e : Same H H') : ∀ (ds : List D) (vs : List V), Rvs K H vs ds → Rvs K H' vs ds
  | _, _, .nil => .nil
  | d :: ds, _, .cons h q => .cons (dp_same e d _ h) (dps_same e ds _ q)
end
section
variable {K : PySem.W.Frag} {H : Hp}
theorem Rvs.len : ∀ {vs : List V} {ds : List D}, Rvs K H vs ds → vs.length = ds.length
  | _, _, .nil => rfl
  | _, _, .cons _ t => congrArg (· + 1) (Rvs.len t)
theorem Rvs.app : ∀ {vs us : List V} {ds es : List D}, Rvs K H vs ds → Rvs K H us es → Rvs K H (vs ++ us) (ds ++ es)
  | _, _, _, _, .nil, q => q
  | _, _, _, _, .cons h t, q => .cons h (Rvs.app t q)
theorem Rvs.getD : ∀ {vs : List V} {ds : List D} {i : Nat} {d : D}, Rvs K H vs ds → ds[i]? = some d → ∃ v, vs[i]? = some v ∧ Rv K H v d
  | _, _, _, _, .nil, e => by simp at e
  | _, _, 0, _, .cons h _, e => by
    have e' := Option.some.inj (show some _ = some _ from e)
    subst e'
    exact ⟨_, rfl, h⟩
  | _, _, i + 1, d, .cons _ t, e => by
    obtain ⟨v, h1, h2⟩ := Rvs.getD (i := i) (d := d) t (by simpa using e)
    exact ⟨v, by simpa using h1, h2⟩
theorem Rvs.getV : ∀ {vs : List V} {ds : List D} {i : Nat} {v : V}, Rvs K H vs ds → vs[i]? = some v → ∃ d, ds[i]? = some d ∧ Rv K H v d
  | _, _, _, _, .nil, e => by simp at e
  | _, _, 0, _, .cons h _, e => by
    have e' := Option.some.inj (show some _ = some _ from e)
    subst e'
    exact ⟨_, rfl, h⟩
  | _, _, i + 1, v, .cons _ t, e => by
    obtain ⟨d, h1, h2⟩ := Rvs.getV (i := i) (v := v) t (by simpa using e)
    exact ⟨d, by simpa using h1, h2⟩
theorem Rvs.takeA : ∀ {vs : List V} {ds : List D} (n : Nat), Rvs K H vs ds → Rvs K H (vs.take n) (ds.take n)
  | _, _, 0, _ => .nil
  | _, _, _ + 1, .nil => .nil
  | _, _, n + 1, .cons h t => .cons h (Rvs.takeA n t)
theorem Rvs.dropA : ∀ {vs : List V} {ds : List D} (n : Nat), Rvs K H vs ds → Rvs K H (vs.drop n) (ds.drop n)
  | _, _, 0, h => h
  | _, _, _ + 1, .nil => .nil
  | _, _, n + 1, .cons _ t => Rvs.dropA n t
theorem Rvs.setA {v : V} {d : D} (r : Rv K H v d) : ∀ {vs : List V} {ds : List D} (n : Nat), Rvs K H vs ds → Rvs K H (vs.set n v) (ds.set n d)
  | _, _, _, .nil => .nil
  | _, _, 0, .cons _ t => .cons r t
  | _, _, n + 1, .cons h t => .cons h (Rvs.setA r n t)
theorem Rvs.revA : ∀ {vs : List V} {ds : List D}, Rvs K H vs ds → Rvs K H vs.reverse ds.reverse
  | _, _, .nil => .nil
  | _, _, .cons h t => by
    rw [List.reverse_cons, List.reverse_cons]
    exact Rvs.app (Rvs.revA t) (.cons h .nil)
theorem Rvs.eraseA : ∀ {vs : List V} {ds : List D} (n : Nat), Rvs K H vs ds → Rvs K H (vs.eraseIdx n) (ds.eraseIdx n)
  | _, _, _, .nil => .nil
  | _, _, 0, .cons _ t => t
  | _, _, n + 1, .cons h t => .cons h (Rvs.eraseA n t)
theorem Rvs.nilL {vs : List V} (h : Rvs K H vs []) : vs = [] := by cases h; rfl
theorem Rvs.one {v : V} {d : D} (h : Rv K H v d) : Rvs K H [v] [d] := .cons h .nil
theorem Rvs.intsV : ∀ {vs : List V} {ns : List Int}, Rvs K H vs (ns.map PyData.int) → vs = ns.map V.int
  | _, [], .nil => rfl
  | _, _ :: _, .cons (.int _) t => congrArg (_ :: ·) (Rvs.intsV t)
theorem Rvs.ofInts : ∀ {ns : List Int}, Rvs K H (ns.map V.int) (ns.map PyData.int)
  | [] => .nil
  | _ :: _ => .cons (.int _) Rvs.ofInts
end

/-! ### the state -/
/-- HS: the part of the heap that data lie in (nobody changes it); H: all -/
structure Wd (T : DKd) (dk : DkA) (HS H : Hp) : Prop where
  sub : Same HS H
  off : ∀ b, dkMem dk b → HS b = none
  dkc : ∀ p g, dk = some (p, g) → p ≠ g ∧ T.lies H p g
/-- a step of an expression -/
structure Stp (T : DKd) (dk : DkA) (HS H HS1 H1 : Hp) : Prop where
  sh : Same HS HS1
  fr : ∀ b o, H b = some o → ¬ dkMem dk b → H1 b = some o
  new : ∀ b, HS b = none → HS1 b ≠ none → H b = none
  wd : Wd T dk HS1 H1
/-- a value that is read: data of the part HS, or a list of somebody's own whose items lie there -/
def RpR (K : PySem.W.Frag) (dk : DkA) (HS H : Hp) (v : V) (d : D) : Prop :=
  Rv K HS v d ∨ ∃ p vs ds, v = .ref p ∧ d = .list ds ∧ ¬ dkMem dk p ∧ HS p = none ∧ H p = some (.lst vs) ∧ Rvs K HS vs ds
section
variable {T : DKd} {K : PySem.W.Frag} {dk : DkA} {HS H HS1 H1 HS2 H2 : Hp}
theorem Stp.refl (w : Wd T dk HS H) : Stp T dk HS H HS H := ⟨Same.refl _, fun _ _ h _ => h, fun _ h h' => absurd h h', w⟩
theorem Stp.trans (a : Stp T dk HS H HS1 H1) (b : Stp T dk HS1 H1 HS2 H2) : Stp T dk HS H HS2 H2 where
  sh := a.sh.trans b.sh
  fr := fun c o h n => b.fr c o (a.fr c o h n) n
  new := fun c h1 h2 => by
    cases q : HS1 c with
    | none =>
      have z := b.new c q h2
      cases r : H c with
      | none => rfl
      | some o =>
        by_cases m : dkMem dk c
        · cases dk with
          | none => exact m.elim
          | some pg =>
            obtain ⟨p, g⟩ := pg
            have w := b.wd.off c m
            exact absurd w h2
        · rw [a.fr c o r m] at z; cases z
    | some o => exact a.new c h1 (by rw [q]; exact fun z => by cases z)
  wd := b.wd
theorem RpR.step {v : V} {d : D} (r : RpR K dk HS H v d) (s : Stp T dk HS H HS1 H1) : RpR K dk HS1 H1 v d := by
  rcases r with r | ⟨p, vs, ds, rfl, rfl, m, n, h, q⟩
  · exact .inl (dp_same s.sh _ _ r)
  · refine .inr ⟨p, vs, ds, rfl, rfl, m, ?_, s.fr p _ h m, dps_same s.sh _ _ q⟩
    cases z : HS1 p with
    | none => rfl
    | some o =>
      have w := s.new p n (by rw [z]; exact fun y => by cases y)
      rw [h] at w; cases w
/-- in the whole heap it is plain data -/
theorem RpR.rv {v : V} {d : D} (r : RpR K dk HS H v d) (w : Wd T dk HS H) : Rv K H v d := by
  rcases r with r | ⟨p, vs, ds, rfl, rfl, m, n, h, q⟩
  · exact dp_same w.sub _ _ r
  · exact .lst h (dps_same w.sub _ _ q)
/-- a list that is read -/
theorem RpR.lst {v : V} {ds : List D} (r : RpR K dk HS H v (.list ds)) (w : Wd T dk HS H) : ∃ p vs, v = .ref p ∧ H p = some (.lst vs) ∧ Rvs K HS vs ds := by
  rcases r with r | ⟨p, vs, ds', rfl, e, m, n, h, q⟩
  · cases r with
    | lst h q => exact ⟨_, _, rfl, w.sub _ _ h, q⟩
  · cases e
    exact ⟨p, vs, rfl, h, q⟩
theorem RpR.tup {v : V} {ds : List D} (r : RpR K dk HS H v (.tuple ds)) (w : Wd T dk HS H) : ∃ p vs, v = .ref p ∧ HS p = some (.tup vs) ∧ SqT K H p vs ∧ Rvs K HS vs ds := by
  rcases r with r | ⟨p, vs, ds', rfl, e, m, n, h, q⟩
  · cases r with
    | tup h q => exact ⟨_, _, rfl, h, SqT.of (w.sub _ _ h), q⟩
  · cases e
theorem RpR.int {v : V} {i : Int} (r : RpR K dk HS H v (.int i)) : v = .int i := by
  rcases r with r | ⟨p, vs, ds', rfl, e, m, n, h, q⟩
  · cases r; rfl
  · cases e
theorem RpR.bool {v : V} {i : Bool} (r : RpR K dk HS H v (.bool i)) : v = .bl i := by
  rcases r with r | ⟨p, vs, ds', rfl, e, m, n, h, q⟩
  · cases r; rfl
  · cases e
theorem RpR.str {v : V} {i : Str} (r : RpR K dk HS H v (.str i)) : v = .str i := by
  rcases r with r | ⟨p, vs, ds', rfl, e, m, n, h, q⟩
  · cases r; rfl
  · cases e
theorem RpR.non {v : V} (r : RpR K dk HS H v .none) : v = .non := by
  rcases r with r | ⟨p, vs, ds', rfl, e, m, n, h, q⟩
  · cases r; rfl
  · cases e
/-- a new object of the part that data lie in -/
theorem Wd.lay (w : Wd T dk HS H) {p : Addr} {o : HO} (hp : H p = none) : Stp T dk HS H (upd HS p o) (upd H p o) := by
  have hs : HS p = none := w.sub.free hp
  have nm : ∀ b, dkMem dk b → b ≠ p := fun b m e => by
    subst e
    cases dk with
    | none => exact m
    | some pg =>
      obtain ⟨x, g⟩ := pg
      have z := (w.dkc x g rfl).2
      rcases m with m | m
      · subst m; exact T.fstS z hp
      · subst m; exact T.sndS z hp
  refine ⟨fun b u e => ?_, fun b u e _ => ?_, fun b e1 e2 => ?_, ⟨fun b u e => ?_, fun b m => ?_, fun x g e => ?_⟩⟩
  · rw [upd_ne (ne_of_none e hs)]; exact e
  · rw [upd_ne (ne_of_none e hp)]; exact e
  · by_cases h : b = p
    · subst h; exact hp
    · rw [upd_ne h] at e2; exact absurd e1 e2
  · by_cases h : b = p
    · subst h; rw [upd_same] at e ⊢; exact e
    · rw [upd_ne h] at e ⊢; exact w.sub b u e
  · rw [upd_ne (nm b m)]; exact w.off b m
  · obtain ⟨z1, z2⟩ := w.dkc x g e
    have m1 : dkMem dk x := by rw [e]; exact .inl rfl
    have m2 : dkMem dk g := by rw [e]; exact .inr rfl
    exact ⟨z1, T.loc (upd_ne (nm x m1)).symm (upd_ne (nm g m2)).symm z2⟩
/-- a new object of one's own -/
theorem Wd.layOwn (w : Wd T dk HS H) {p : Addr} {o : HO} (hp : H p = none) : Stp T dk HS H HS (upd H p o) ∧ ¬ dkMem dk p ∧ HS p = none := by
  have hs : HS p = none := w.sub.free hp
  have nm : ∀ b, dkMem dk b → b ≠ p := fun b m e => by
    subst e
    cases dk with
    | none => exact m
    | some pg =>
      obtain ⟨x, g⟩ := pg
      have z := (w.dkc x g rfl).2
      rcases m with m | m
      · subst m; exact T.fstS z hp
      · subst m; exact T.sndS z hp
  refine ⟨⟨Same.refl _, fun b u e _ => ?_, fun b e1 e2 => absurd e1 e2, ⟨fun b u e => ?_, w.off, fun x g e => ?_⟩⟩, fun m => nm p m rfl, hs⟩
  · rw [upd_ne (ne_of_none e hp)]; exact e
  · rw [upd_ne (ne_of_none e hs)]; exact w.sub b u e
  · obtain ⟨z1, z2⟩ := w.dkc x g e
    have m1 : dkMem dk x := by rw [e]; exact .inl rfl
    have m2 : dkMem dk g := by rw [e]; exact .inr rfl
    exact ⟨z1, T.loc (upd_ne (nm x m1)).symm (upd_ne (nm g m2)).symm z2⟩
end

/-- what a slot's datum means -/
def keyD : Key → D
  | .inl i => .int i
  | .inr x => .str x
/-- rows of a dict of one's own: key by key -/
inductive Kvr {κ : Type} (K : PySem.W.Frag) (HS : Hp) (f : κ → D) : List (κ × V) → List (D × D) → Prop
  | nil : Kvr K HS f [] []
  | cons {k : κ} {v : V} {d : D} {us : List (κ × V)} {kvs : List (D × D)} : Rv K HS v d → Kvr K HS f us kvs → Kvr K HS f ((k, v) :: us) ((f k, d) :: kvs)
def DctR (K : PySem.W.Frag) (HS : Hp) (t : Bool) (kvs : List (D × D)) (o : HO) : Prop :=
  (t = false ∧ ∃ us : List (Key × V), o = .dK us ∧ Kvr K HS keyD us kvs) ∨ (t = true ∧ ∃ us : List (List Key × V), o = .dT us ∧ Kvr K HS (fun ks => PyData.tuple (ks.map keyD)) us kvs)
theorem Kvr.same {κ : Type} {K : PySem.W.Frag} {HS HS1 : Hp} {f : κ → D} (e : Same HS HS1) : ∀ {us : List (κ × V)} {kvs : List (D × D)}, Kvr K HS f us kvs → Kvr K HS1 f us kvs
  | _, _, .nil => .nil
  | _, _, .cons h t => .cons (dp_same e _ _ h) (Kvr.same e t)
theorem DctR.same {K : PySem.W.Frag} {HS HS1 : Hp} {t : Bool} {kvs : List (D × D)} {o : HO} (e : Same HS HS1) (h : DctR K HS t kvs o) : DctR K HS1 t kvs o := by
  rcases h with ⟨h1, us, h2, h3⟩ | ⟨h1, us, h2, h3⟩
  · exact .inl ⟨h1, us, h2, h3.same e⟩
  · exact .inr ⟨h1, us, h2, h3.same e⟩
theorem DctR.nlst {K : PySem.W.Frag} {HS : Hp} {t : Bool} {kvs : List (D × D)} {vs : List V} (h : DctR K HS t kvs (.lst vs)) : False := by
  rcases h with ⟨_, us, h2, _⟩ | ⟨_, us, h2, _⟩ <;> cases h2
/-- dicts of one's own stand apart, and are new -/
structure D2 (eH : Hp) (ρ : Envd) (σ : L2.St) : Prop where
  dist : ∀ (i j : Nat) (t u : Bool) (kvs lvs : List (D × D)) (p : Addr), ρ[i]? = some (.dct t kvs) → ρ[j]? = some (.dct u lvs) → σ[i]? = some (some (.ref p)) → σ[j]? = some (some (.ref p)) → i = j
  fresh : ∀ (i : Nat) (t : Bool) (kvs : List (D × D)) (p : Addr), ρ[i]? = some (.dct t kvs) → σ[i]? = some (some (.ref p)) → eH p = none
theorem D2.none {eH : Hp} {ρ : Envd} {σ : L2.St} (h : ∀ (i : Nat) (t : Bool) (kvs : List (D × D)), ρ[i]? ≠ some (.dct t kvs)) : D2 eH ρ σ :=
  ⟨fun i j t u kvs lvs p e1 _ _ _ => absurd e1 (h i t kvs), fun i t kvs p e1 _ => absurd e1 (h i t kvs)⟩
theorem d2_get {ρ : Envd} {i j : Nat} {s : Slot} {t : Bool} {kvs : List (D × D)} (hs : ∀ t kvs, s ≠ .dct t kvs) (e : (ρ.set i s)[j]? = some (.dct t kvs)) : i ≠ j ∧ ρ[j]? = some (.dct t kvs) := by
  by_cases c : i = j
  · subst c
    by_cases l : i < ρ.length
    · rw [List.getElem?_set_self l] at e
      exact absurd (Option.some.inj e) (hs t kvs)
    · rw [List.getElem?_eq_none (by rw [List.length_set]; omega)] at e
      cases e
  · rw [List.getElem?_set_ne c] at e
    exact ⟨c, e⟩
/-- a slot that is no dict is set -/
theorem D2.set {eH : Hp} {ρ : Envd} {σ : L2.St} {i : Nat} {s : Slot} (h : D2 eH ρ σ) (hs : ∀ t kvs, s ≠ .dct t kvs) (x : Option V) : D2 eH (ρ.set i s) (σ.set i x) :=
  ⟨fun j k t u kvs lvs p e1 e2 e3 e4 => by
    obtain ⟨n1, a1⟩ := d2_get hs e1
    obtain ⟨n2, a2⟩ := d2_get hs e2
    rw [List.getElem?_set_ne n1] at e3
    rw [List.getElem?_set_ne n2] at e4
    exact h.dist j k t u kvs lvs p a1 a2 e3 e4, fun j t kvs p e1 e3 => by
    obtain ⟨n1, a1⟩ := d2_get hs e1
    rw [List.getElem?_set_ne n1] at e3
    exact h.fresh j t kvs p a1 e3⟩
theorem D2.setK {eH : Hp} {ρ : Envd} {σ : L2.St} {i : Nat} {s : Slot} (h : D2 eH ρ σ) (hs : ∀ t kvs, s ≠ .dct t kvs) : D2 eH (ρ.set i s) σ :=
  ⟨fun j k t u kvs lvs p e1 e2 e3 e4 => h.dist j k t u kvs lvs p (d2_get hs e1).2 (d2_get hs e2).2 e3 e4, fun j t kvs p e1 e3 => h.fresh j t kvs p (d2_get hs e1).2 e3⟩
def SlotR (K : PySem.W.Frag) (dk : DkA) (HS H : Hp) : Slot → Option V → Prop
  | .nil, _ => True
  | .val d, x => ∃ v, x = some v ∧ Rv K HS v d
  | .own ds, x => ∃ p vs, x = some (.ref p) ∧ ¬ dkMem dk p ∧ HS p = none ∧ H p = some (.lst vs) ∧ Rvs K HS vs ds
  | .deck, x => ∃ p g, dk = some (p, g) ∧ x = some (.ref p)
  | .dct t kvs, x => ∃ p o, x = some (.ref p) ∧ ¬ dkMem dk p ∧ HS p = none ∧ H p = some o ∧ DctR K HS t kvs o
/-- a def's entry -/
structure Ent where
  H : Hp
  HS : Hp
  dk : DkA
/-- how the state stands to the entry -/
structure Fin (T : DKd) (en : Ent) (dk : DkA) (HS H : Hp) : Prop where
  wd : Wd T dk HS H
  sh : Same en.HS HS
  fr : ∀ b o, en.H b = some o → ¬ dkMem en.dk b → H b = some o
  new : ∀ b, en.HS b = none → HS b ≠ none → en.H b = none
  dks : en.dk = none ∨ dk = en.dk
  dkf : en.dk = none → ∀ b, dkMem dk b → en.H b = none
structure EnvR (T : DKd) (K : PySem.W.Frag) (en : Ent) (ρ : Envd) (dk : DkA) (HS H : Hp) (σ : L2.St) : Prop where
  fin : Fin T en dk HS H
  len : σ.length = ρ.length
  slots : ∀ (i : Nat) (s : Slot), ρ[i]? = some s → ∃ x, σ[i]? = some x ∧ SlotR K dk HS H s x
  dist : ∀ (i j : Nat) (ds es : List D) (p : Addr), ρ[i]? = some (.own ds) → ρ[j]? = some (.own es) → σ[i]? = some (some (.ref p)) → σ[j]? = some (some (.ref p)) → i = j
  fresh : ∀ (i : Nat) (ds : List D) (p : Addr), ρ[i]? = some (.own ds) → σ[i]? = some (some (.ref p)) → en.H p = none
  d2 : D2 en.H ρ σ
section
variable {T : DKd} {K : PySem.W.Frag} {en : Ent} {ρ : Envd} {dk : DkA} {HS H HS1 H1 HS2 H2 : Hp} {σ : L2.St}
theorem Fin.stp (f : Fin T en dk HS H) (s : Stp T dk HS H HS1 H1) : Fin T en dk HS1 H1 where
  wd := s.wd
  sh := f.sh.trans s.sh
  fr := fun b o h n => by
    by_cases m : dkMem dk b
    · rcases f.dks with e | e
      · have z := f.dkf e b m
        rw [h] at z; cases z
      · rw [e] at m; exact absurd m n
    · exact s.fr b o (f.fr b o h n) m
  new := fun b h1 h2 => by
    cases q : HS b with
    | none =>
      have z := s.new b q h2
      cases r : en.H b with
      | none => rfl
      | some o =>
        by_cases m : dkMem en.dk b
        · have e : dk = en.dk := by
            rcases f.dks with e | e
            · rw [e] at m; exact m.elim
            · exact e
          rw [← e] at m
          exact absurd (s.wd.off b m) h2
        · rw [f.fr b o r m] at z; cases z
    | some o => exact f.new b h1 (by rw [q]; exact fun z => by cases z)
  dks := f.dks
  dkf := f.dkf
theorem SlotR.stp {s : Slot} {x : Option V} (r : SlotR K dk HS H s x) (t : Stp T dk HS H HS1 H1) : SlotR K dk HS1 H1 s x := by
  cases s with
  | nil => trivial
  | val d =>
    obtain ⟨v, e, h⟩ := r
    exact ⟨v, e, dp_same t.sh _ _ h⟩
  | own ds =>
    obtain ⟨p, vs, e, m, n, h, q⟩ := r
    refine ⟨p, vs, e, m, ?_, t.fr p _ h m, dps_same t.sh _ _ q⟩
    cases z : HS1 p with
    | none => rfl
    | some o =>
      have w := t.new p n (by rw [z]; exact fun y => by cases y)
      rw [h] at w; cases w
  | deck => exact r
  | dct u kvs =>
    obtain ⟨p, o, e, m, n, h, q⟩ := r
    refine ⟨p, o, e, m, ?_, t.fr p _ h m, q.same t.sh⟩
    cases z : HS1 p with
    | none => rfl
    | some o =>
      have w := t.new p n (by rw [z]; exact fun y => by cases y)
      rw [h] at w; cases w
theorem EnvR.stp (E : EnvR T K en ρ dk HS H σ) (t : Stp T dk HS H HS1 H1) : EnvR T K en ρ dk HS1 H1 σ where
  fin := E.fin.stp t
  len := E.len
  slots := fun i s e => by
    obtain ⟨x, h1, h2⟩ := E.slots i s e
    exact ⟨x, h1, h2.stp t⟩
  dist := E.dist
  fresh := E.fresh
  d2 := E.d2
theorem EnvR.wd (E : EnvR T K en ρ dk HS H σ) : Wd T dk HS H := E.fin.wd
end

/-! ### the lifted judgements -/
abbrev DT (α : Type) := Envd → (α → Prop) → Prop
structure EndsD where
  nx : Envd → Prop
  rt : D → Prop
  bk : Envd → Prop := fun _ => False
  ct : Envd → Prop := fun _ => False
abbrev DTS := EndsD → Envd → Prop
/-- a value that may be kept -/
def lE (T : DKd) (K : PySem.W.Frag) (t : DT D) : TE := fun σ H Q => ∃ en ρ dk HS P, EnvR T K en ρ dk HS H σ ∧ t ρ P ∧ ∀ d v HS1 H1, P d → Stp T dk HS H HS1 H1 → Rv K HS1 v d → Q v H1
/-- a value that is read at once -/
def lR (T : DKd) (K : PySem.W.Frag) (t : DT D) : TE := fun σ H Q => ∃ en ρ dk HS P, EnvR T K en ρ dk HS H σ ∧ t ρ P ∧ ∀ d v HS1 H1, P d → Stp T dk HS H HS1 H1 → RpR K dk HS1 H1 v d → Q v H1
/-- a test -/
def lT (T : DKd) (K : PySem.W.Frag) (t : DT Bool) : TT := fun σ H Q => ∃ en ρ dk HS P, EnvR T K en ρ dk HS H σ ∧ t ρ P ∧ ∀ b HS1 H1, P b → Stp T dk HS H HS1 H1 → Q b H1
def ArR (K : PySem.W.Frag) (dk : DkA) (HS : Hp) (v : V) : Ar → Prop
  | .d x => Rv K HS v x
  | .dk => ∃ p g, dk = some (p, g) ∧ v = .ref p
inductive ArsR (K : PySem.W.Frag) (dk : DkA) (HS : Hp) : List V → List Ar → Prop
  | nil : ArsR K dk HS [] []
  | cons {v vs a as} : ArR K dk HS v a → ArsR K dk HS vs as → ArsR K dk HS (v :: vs) (a :: as)
/-- arguments that may be kept -/
def lA (T : DKd) (K : PySem.W.Frag) (n : Nat) (t : DT (List Ar)) : TA := fun σ H Q => ∃ en ρ dk HS P, EnvR T K en ρ dk HS H σ ∧ t ρ P ∧ ∀ ds vs HS1 H1, ds.length = n → P ds → Stp T dk HS H HS1 H1 → ArsR K dk HS1 vs ds → Q vs H1
/-- arguments that are read at once -/
def RpRs (K : PySem.W.Frag) (dk : DkA) (HS H : Hp) : List V → List D → Prop
  | [], [] => True
  | v :: vs, d :: ds => RpR K dk HS H v d ∧ RpRs K dk HS H vs ds
  | _, _ => False
def lAR (T : DKd) (K : PySem.W.Frag) (t : DT (List D)) : TA := fun σ H Q => ∃ en ρ dk HS P, EnvR T K en ρ dk HS H σ ∧ t ρ P ∧ ∀ ds vs HS1 H1, P ds → Stp T dk HS H HS1 H1 → RpRs K dk HS1 H1 vs ds → Q vs H1
/-- a statement -/
structure lSx (T : DKd) (K : PySem.W.Frag) (t : DTS) (De : Ends) (σ : L2.St) (H : Hp) (en : Ent) (ρ : Envd) (dk : DkA) (HS : Hp) (P : EndsD) : Prop where
  env : EnvR T K en ρ dk HS H σ
  does : t P ρ
  nx : ∀ ρ1 dk1 HS1 H1 σ1, P.nx ρ1 → EnvR T K en ρ1 dk1 HS1 H1 σ1 → De.nx σ1 H1
  rt : ∀ d v dk1 HS1 H1, P.rt d → Fin T en dk1 HS1 H1 → Rv K HS1 v d → De.rt v H1
  bk : ∀ ρ1 dk1 HS1 H1 σ1, P.bk ρ1 → EnvR T K en ρ1 dk1 HS1 H1 σ1 → De.bk σ1 H1
  ct : ∀ ρ1 dk1 HS1 H1 σ1, P.ct ρ1 → EnvR T K en ρ1 dk1 HS1 H1 σ1 → De.ct σ1 H1
def lS (T : DKd) (K : PySem.W.Frag) (t : DTS) : TS := fun De σ H => ∃ en ρ dk HS P, lSx T K t De σ H en ρ dk HS P

structure DE (T : DKd) (X : Cx) (e : Expr) (t : DT D) : Prop where
  pe : PE X e (lE T X.K t)
structure DR (T : DKd) (X : Cx) (e : Expr) (t : DT D) : Prop where
  pe : PE X e (lR T X.K t)
structure DB (T : DKd) (X : Cx) (e : Expr) (t : DT Bool) : Prop where
  pt : PT X e (lT T X.K t)
structure DA (T : DKd) (X : Cx) (es : List Expr) (t : DT (List Ar)) : Prop where
  pa : PA X es (lA T X.K es.length t)
structure DAR (T : DKd) (X : Cx) (es : List Expr) (t : DT (List D)) : Prop where
  pa : PA X es (lAR T X.K t)
structure DS (T : DKd) (X : Cx) (st : Stmt) (t : DTS) : Prop where
  ps : PS X st (lS T X.K t)
structure DSs (T : DKd) (X : Cx) (st : List Stmt) (t : DTS) : Prop where
  ps : PSs X st (lS T X.K t)

theorem PE.imp {X : Cx} {e : Expr} {t t' : TE} (h : PE X e t) (m : ∀ σ H Q, t' σ H Q → t σ H Q) : PE X e t' := ⟨fun pins s σ H Q I q => h.run pins s σ H Q I (m σ H Q q)⟩
theorem PT.imp {X : Cx} {e : Expr} {t t' : TT} (h : PT X e t) (m : ∀ σ H Q, t' σ H Q → t σ H Q) : PT X e t' := ⟨fun pins s σ H Q I q => h.run pins s σ H Q I (m σ H Q q)⟩
theorem PW.imp {X : Cx} {e : Expr} {t t' : TT} (h : PW X e t) (m : ∀ σ H Q, t' σ H Q → t σ H Q) : PW X e t' := ⟨fun w pins s σ H Q I q => h.run w pins s σ H Q I (m σ H Q q)⟩
theorem PA.imp {X : Cx} {e : List Expr} {t t' : TA} (h : PA X e t) (m : ∀ σ H Q, t' σ H Q → t σ H Q) : PA X e t' := ⟨fun p pins s σ H Q I q => h.run p pins s σ H Q I (m σ H Q q)⟩
theorem PK.imp {X : Cx} {e : List Keyword} {t t' : TA} (h : PK X e t) (m : ∀ σ H Q, t' σ H Q → t σ H Q) : PK X e t' := ⟨fun p pins s σ H Q I q => h.run p pins s σ H Q I (m σ H Q q)⟩
theorem PS.imp {X : Cx} {e : Stmt} {t t' : TS} (h : PS X e t) (m : ∀ De σ H, t' De σ H → t De σ H) : PS X e t' := ⟨fun pins s σ H De I q => h.run pins s σ H De I (m De σ H q)⟩
theorem PSs.imp {X : Cx} {e : List Stmt} {t t' : TS} (h : PSs X e t) (m : ∀ De σ H, t' De σ H → t De σ H) : PSs X e t' := ⟨fun pins s σ H De I q => h.run pins s σ H De I (m De σ H q)⟩
theorem DE.rd {T : DKd} {X : Cx} {e : Expr} {t : DT D} (h : DE T X e t) : DR T X e t :=
  ⟨PE.imp h.pe fun σ H Q ⟨en, ρ, dk, HS, P, E, q, k⟩ => ⟨en, ρ, dk, HS, P, E, q, fun d v HS1 H1 p s r => k d v HS1 H1 p s (.inl r)⟩⟩
end DL

namespace HT
open PySem PySem.Spec PyProof.Rows L2
theorem tuple_mul1 (l : Addr) (items : Array Value) (n : Nat) (dd : Option Addr) (sl : Array (Option Value)) (x : Int) (u : Tok) (c0 : (decide (x < -(2 ^ 63)) || decide (x ≥ 2 ^ 63)) = false) (c1 : (items.isEmpty || x == 1) = true) :
    Meets (Builtin.«tuple.__mul__» ⟨[.ref l, .int x u], []⟩) (fun _ R s => s.heap.get? l = some { cls := .type "tuple", dict := dd, data := .seq items n, slots := sl } ∧ R (.ok (.ret (Value.ref l))) s) :=
  .of_wp fun prog w A R s h => by
    obtain ⟨hp, g, d, tk, os⟩ := s
    obtain ⟨hl, h⟩ := h
    have f1 := AutoSeq1.idx_int
    wp_walk using wpAny_loadPart' hl
    refine wpAny_ite_false (decide_eq_false (by rw [c0]; exact Bool.false_ne_true)) ?_
    wp_walk using wpAny_loadPart' hl
    exact ⟨_, rfl, h⟩
/-- t * 1 is t itself -/
theorem op_rep1 {X : Cx} : OpR X (binaryOp .Mult) (fun x y H Q => ∃ l xs, x = .ref l ∧ y = .int 1 ∧ SqT X.K H l xs ∧ Q (.ref l) H) := by
  intro pins s σ H x y v u Q I rx ry h
  obtain ⟨l, xs, rfl, rfl, hT, q⟩ := h
  cases rx
  obtain ⟨t, rfl⟩ := ry
  obtain ⟨its, r, ⟨⟨cls, dd, data, sl⟩, ho, hc, n, hd⟩, hs⟩ := I.tuple hT
  simp only at hc hd
  subst hc hd
  exact wpAny_binaryOp_repeat_ref (T := "tuple") (U := "int") (by decide) ⟨_, ho, rfl⟩ (fun s' => typeIs_int s' 1 t) noFill_tuple_mul F.fills_int_mul F.slot_int_rmul repeat_tuple F.slot_int_index.lookup
    (call_meets F.slot_int_rmul (typeIs_int s 1 t) F.entry_int_rmul (F.args_int_rmul_2 _ _) (int_rmul_tuple 1 t l its.toArray n dd sl)
      ⟨ho, rfl, ⟨_, ho, rfl⟩, call_meets F.slot_tuple_mul ⟨_, ho, rfl⟩ F.entry_tuple_mul (F.args_tuple_mul_2 _ _) (tuple_mul1 l its.toArray n dd sl 1 t (by decide) (by rw [Bool.or_comm]; rfl)) ⟨ho, .ref l, H, I, rfl, q⟩⟩)
end HT
namespace DL
open PySem PySem.Spec PyProof.Rows L2

/-! ### names, constants -/
def Slot.data? : Slot → Option D
  | .val d => some d
  | _ => none
def Slot.read? : Slot → Option D
  | .val d => some d
  | .own ds => some (.list ds)
  | _ => none
def sl (ρ : Envd) (i : Nat) : Slot := (ρ[i]?).getD .nil
def xV (i : Nat) : DT D := fun ρ P => ∃ d, (sl ρ i).data? = some d ∧ P d
def xRd (i : Nat) : DT D := fun ρ P => ∃ d, (sl ρ i).read? = some d ∧ P d
def xC (d : D) : DT D := fun _ P => P d
def x1 (g : D → Option D) (ta : DT D) : DT D := fun ρ P => ta ρ fun x => ∃ z, g x = some z ∧ P z
def x2 (g : D → D → Option D) (ta tb : DT D) : DT D := fun ρ P => ta ρ fun x => tb ρ fun y => ∃ z, g x y = some z ∧ P z
section
variable {T : DKd} {X : Cx} {K : PySem.W.Frag} {en : Ent} {ρ : Envd} {dk : DkA} {HS H : Hp} {σ : L2.St}
theorem sl_get {i : Nat} {s : Slot} (h : sl ρ i = s) (n : s ≠ .nil) : ρ[i]? = some s := by
  unfold sl at h
  cases e : ρ[i]? with
  | none => rw [e] at h; exact absurd h.symm n
  | some z => rw [e] at h; exact congrArg some h
theorem EnvR.dataAt (E : EnvR T K en ρ dk HS H σ) {i : Nat} {d : D} (h : (sl ρ i).data? = some d) : ∃ v, σ[i]? = some (some v) ∧ Rv K HS v d := by
  cases e : sl ρ i with
  | val x =>
    rw [e] at h
    have h' : x = d := Option.some.inj h
    subst h'
    obtain ⟨y, h1, v, rfl, h2⟩ := E.slots i _ (sl_get e fun z => nomatch z)
    exact ⟨v, h1, h2⟩
  | nil => rw [e] at h; cases h
  | own _ => rw [e] at h; cases h
  | deck => rw [e] at h; cases h
  | dct u kvs => rw [e] at h; cases h
theorem EnvR.readAt (E : EnvR T K en ρ dk HS H σ) {i : Nat} {d : D} (h : (sl ρ i).read? = some d) : ∃ v, σ[i]? = some (some v) ∧ RpR K dk HS H v d := by
  cases e : sl ρ i with
  | val x =>
    rw [e] at h
    have h' : x = d := Option.some.inj h
    subst h'
    obtain ⟨y, h1, v, rfl, h2⟩ := E.slots i _ (sl_get e fun z => nomatch z)
    exact ⟨v, h1, .inl h2⟩
  | own ds =>
    rw [e] at h
    have h' : .list ds = d := Option.some.inj h
    subst h'
    obtain ⟨y, h1, p, vs, rfl, m, n, h2, q⟩ := E.slots i _ (sl_get e fun z => nomatch z)
    exact ⟨_, h1, .inr ⟨p, vs, ds, rfl, rfl, m, n, h2, q⟩⟩
  | nil => rw [e] at h; cases h
  | deck => rw [e] at h; cases h
  | dct u kvs => rw [e] at h; cases h
theorem d_pv {i : Nat} {e : Expr} (h : PE X e (tVar i)) : DE T X e (xV i) :=
  ⟨PE.imp h fun σ H Q ⟨en, ρ, dk, HS, P, E, q, k⟩ => by
    obtain ⟨d, e1, p⟩ := q
    obtain ⟨v, e2, r⟩ := E.dataAt e1
    exact ⟨v, e2, k d v HS H p (Stp.refl E.wd) r⟩⟩
theorem dr_pv {i : Nat} {e : Expr} (h : PE X e (tVar i)) : DR T X e (xRd i) :=
  ⟨PE.imp h fun σ H Q ⟨en, ρ, dk, HS, P, E, q, k⟩ => by
    obtain ⟨d, e1, p⟩ := q
    obtain ⟨v, e2, r⟩ := E.readAt e1
    exact ⟨v, e2, k d v HS H p (Stp.refl E.wd) r⟩⟩
/-- the name that stands in the i-th slot -/
theorem dv (i : Nat) {x : Str} {pos : Pos} (hN : X.N[i]? = some x := by rfl) (hv : Vis X.env.scope x := by first | exact Or.inl rfl | exact Or.inr (Or.inl rfl) | exact Or.inr (Or.inr rfl)) (hd : (x == ("__debug__" : Str)) = false := by decide)
    (hcd : (x == ("__classdict__" : Str)) = false := by decide) : DE T X (.Name x pos) (xV i) := d_pv (pe_var hN hv hd hcd)
theorem rv (i : Nat) {x : Str} {pos : Pos} (hN : X.N[i]? = some x := by rfl) (hv : Vis X.env.scope x := by first | exact Or.inl rfl | exact Or.inr (Or.inl rfl) | exact Or.inr (Or.inr rfl)) (hd : (x == ("__debug__" : Str)) = false := by decide)
    (hcd : (x == ("__classdict__" : Str)) = false := by decide) : DR T X (.Name x pos) (xRd i) := dr_pv (pe_var hN hv hd hcd)
theorem d_c {v : V} {d : D} {e : Expr} (h : PE X e (tC v)) (r : ∀ H, Rv X.K H v d) : DE T X e (xC d) :=
  ⟨PE.imp h fun σ H Q ⟨en, ρ, dk, HS, P, E, q, k⟩ => k d v HS H q (Stp.refl E.wd) (r HS)⟩
theorem d_int {i : Int} {j pos} : DE T X (.Constant (.int i) j pos) (xC (.int i)) := d_c pe_int fun _ => .int i
theorem d_bool {b j pos} : DE T X (.Constant (.bool b) j pos) (xC (.bool b)) := d_c pe_bl fun _ => .bl b
theorem d_none {j pos} : DE T X (.Constant .none j pos) (xC .none) := d_c pe_non fun _ => .non
theorem d_str {x j pos} : DE T X (.Constant (.str x) j pos) (xC (.str x)) := d_c pe_str fun _ => .str x
theorem d_glob {x : Str} {v : V} {u : Value} {d : D} {pos : Pos} (hg : Gl X x) (hm : X.mg x = some u) (r : RelV v u) (rd : ∀ H, Rv X.K H v d) (hd : (x == ("__debug__" : Str)) = false := by decide) : DE T X (.Name x pos) (xC d) := d_c (pe_glob hg hm r hd) rd

/-! ### operations by values -/
def rD (T : DKd) (K : PySem.W.Frag) (g : D → D → Option D) : R2 := fun x y H Q => ∃ dk HS dx dy dz, Wd T dk HS H ∧ RpR K dk HS H x dx ∧ RpR K dk HS H y dy ∧ g dx dy = some dz ∧ ∀ z HS1 H1, Stp T dk HS H HS1 H1 → Rv K HS1 z dz → Q z H1
def rD1 (T : DKd) (K : PySem.W.Frag) (g : D → Option D) : V → Hp → VK → Prop := fun x H Q => ∃ dk HS dx dz, Wd T dk HS H ∧ RpR K dk HS H x dx ∧ g dx = some dz ∧ ∀ z HS1 H1, Stp T dk HS H HS1 H1 → Rv K HS1 z dz → Q z H1
variable {a b c : Expr} {ta tb tc : DT D} {pos : Pos} {g g' : D → D → Option D}
theorem lift2 {r : R2} {ta tb : DT D} (hr : ∀ x y H Q, rD T X.K g x y H Q → r x y H Q) : ∀ σ H Q, lE T X.K (x2 g ta tb) σ H Q → tOp r (lR T X.K ta) (lR T X.K tb) σ H Q := fun σ H Q h => by
  obtain ⟨en, ρ, dk, HS, P, E, q, k⟩ := h
  refine ⟨en, ρ, dk, HS, _, E, q, fun d v HS1 H1 p s r => ?_⟩
  refine ⟨en, ρ, dk, HS1, _, E.stp s, p, fun d2 v2 HS2 H2 p2 s2 r2 => ?_⟩
  obtain ⟨z, e, pz⟩ := p2
  exact hr _ _ _ _ ⟨dk, HS2, d, d2, z, s2.wd, r.step s2, r2, e, fun zv HS3 H3 s3 r3 => k z zv HS3 H3 pz (s.trans (s2.trans s3)) r3⟩
theorem d_op {op : Operator} (ho : OpR X (binaryOp op) (rD T X.K g)) (ha : DR T X a ta) (hb : DR T X b tb) : DE T X (.BinOp a op b pos) (x2 g ta tb) :=
  ⟨PE.imp (pe_op ho ha.pe hb.pe) (lift2 fun _ _ _ _ h => h)⟩
theorem d_un {op : UnaryOp} {g : D → Option D} (ho : UnR X (unaryOp op) (rD1 T X.K g)) (ha : DR T X a ta) : DE T X (.UnaryOp op a pos) (x1 g ta) :=
  ⟨PE.imp (pe_un ho ha.pe) fun σ H Q h => by
    obtain ⟨en, ρ, dk, HS, P, E, q, k⟩ := h
    refine ⟨en, ρ, dk, HS, _, E, q, fun d v HS1 H1 p s r => ?_⟩
    obtain ⟨z, e, pz⟩ := p
    exact ⟨dk, HS1, d, z, s.wd, r, e, fun zv HS3 H3 s3 r3 => k z zv HS3 H3 pz (s.trans s3) r3⟩⟩
/-- a[b] -/
theorem d_ix (hr : IxR X (rD T X.K g)) (ha : DR T X a ta) (hb : DR T X b tb) (hs : PlainIx b := by exact fun _ _ => rfl) : DE T X (.Subscript a b pos) (x2 g ta tb) :=
  ⟨PE.imp (pe_ix hr ha.pe hb.pe hs) (lift2 fun _ _ _ _ h => h)⟩
theorem opr_imp {f : Value → Value → Sem Value} {r r' : R2} (h : OpR X f r) (m : ∀ x y H Q, r' x y H Q → r x y H Q) : OpR X f r' := fun pins s σ H x y v u Q I rx ry q => h pins s σ H x y v u Q I rx ry (m _ _ _ _ q)
theorem opr_or {f : Value → Value → Sem Value} {r r' : R2} (h : OpR X f r) (h' : OpR X f r') : OpR X f (fun x y H Q => r x y H Q ∨ r' x y H Q) := fun pins s σ H x y v u Q I rx ry q =>
  q.elim (h pins s σ H x y v u Q I rx ry) (h' pins s σ H x y v u Q I rx ry)
end

/-! ### arithmetic -/
def MulOk (i j : Int) : Prop := ((-(2 ^ 64) < i ∧ i < 2 ^ 64) ∨ (-(2 ^ 64) < j ∧ j < 2 ^ 64)) ∨ i.natAbs.log2 + j.natAbs.log2 < 1000000
instance (i j : Int) : Decidable (MulOk i j) := inferInstanceAs (Decidable (_ ∨ _))
def PowOk (i j : Int) : Prop := 0 ≤ j ∧ j ≤ 1000000 ∧ i.natAbs < 2 ^ 64
instance (i j : Int) : Decidable (PowOk i j) := inferInstanceAs (Decidable (_ ∧ _))
def DivOk (j : Int) : Prop := 0 < j ∧ j.natAbs.log2 < 9000
instance (j : Int) : Decidable (DivOk j) := inferInstanceAs (Decidable (_ ∧ _))
def oAdd : D → D → Option D
  | .int a, .int b => some (.int (a + b))
  | .tuple a, .tuple b => if a.length + b.length ≤ sizeLine then some (.tuple (a ++ b)) else none
  | .list a, .list b => if a.length + b.length ≤ sizeLine then some (.list (a ++ b)) else none
  | .str a, .str b => if a.length + b.length ≤ sizeLine then some (.str (a ++ b)) else none
  | _, _ => none
def oSub : D → D → Option D
  | .int a, .int b => some (.int (a - b))
  | _, _ => none
def oMul : D → D → Option D
  | .int a, .int b => if MulOk a b then some (.int (a * b)) else none
  | .list a, .int k => if -(2 ^ 63) ≤ k ∧ k < 2 ^ 63 ∧ a.length * k.toNat ≤ sizeLine then some (.list (List.replicate k.toNat a).flatten) else none
  | .tuple a, .int k => if a ≠ [] ∧ 2 ≤ k ∧ k ≤ 1000 ∧ a.length ≤ 1000 then some (.tuple (List.replicate k.toNat a).flatten) else if k = 1 then some (.tuple a) else none
  | _, _ => none
def oDiv : D → D → Option D
  | .int a, .int b => if DivOk b then some (.int (a / b)) else none
  | _, _ => none
def oMod : D → D → Option D
  | .int a, .int b => if 0 < b then some (.int (a % b)) else none
  | _, _ => none
def oPow : D → D → Option D
  | .int a, .int b => if PowOk a b then some (.int (a ^ b.toNat)) else none
  | _, _ => none
def oShl : D → D → Option D
  | .int a, .int b => if PowOk a b then some (.int (a * 2 ^ b.toNat)) else none
  | _, _ => none
def oShr : D → D → Option D
  | .int a, .int b => if 0 ≤ b then some (.int (a / 2 ^ b.toNat)) else none
  | _, _ => none
def oAnd : D → D → Option D
  | .int a, .int b => some (.int (Builtin.bitAnd a b))
  | _, _ => none
def oOr : D → D → Option D
  | .int a, .int b => some (.int (Builtin.bitOr a b))
  | _, _ => none
def oXor : D → D → Option D
  | .int a, .int b => some (.int (Builtin.bitXor a b))
  | _, _ => none
def oNeg : D → Option D
  | .int a => some (.int (-a))
  | _ => none
def oNot : D → Option D
  | .bool a => some (.bool !a)
  | _ => none
section
variable {T : DKd} {X : Cx}
/-- an operation that hands back an int -/
theorem rD_int {g : D → D → Option D} {x y : V} {H : Hp} {Q : VK} (h : rD T X.K g x y H Q) : ∃ dx dy dz, g dx dy = some dz ∧
    (∀ i, dx = .int i → x = .int i) ∧ (∀ i, dy = .int i → y = .int i) ∧ (∀ i, dz = .int i → Q (.int i) H) ∧ (∀ i, dx = .bool i → x = .bl i) ∧ (∀ i, dy = .bool i → y = .bl i) ∧ (∀ i, dz = .bool i → Q (.bl i) H) ∧
    (∀ i, dx = .str i → x = .str i) ∧ (∀ i, dy = .str i → y = .str i) ∧ (∀ i, dz = .str i → Q (.str i) H) := by
  obtain ⟨dk, HS, dx, dy, dz, w, rx, ry, e, k⟩ := h
  refine ⟨dx, dy, dz, e, fun i q => ?_, fun i q => ?_, fun i q => ?_, fun i q => ?_, fun i q => ?_, fun i q => ?_, fun i q => ?_, fun i q => ?_, fun i q => ?_⟩
  · subst q; exact rx.int
  · subst q; exact ry.int
  · subst q; exact k _ HS H (Stp.refl w) (.int i)
  · subst q; exact rx.bool
  · subst q; exact ry.bool
  · subst q; exact k _ HS H (Stp.refl w) (.bl i)
  · subst q; exact rx.str
  · subst q; exact ry.str
  · subst q; exact k _ HS H (Stp.refl w) (.str i)
theorem upd_at {H : Hp} {p : Addr} {o : HO} : upd H p o p = some o := upd_same
/-- a new tuple of data -/
theorem new_tup {K : PySem.W.Frag} {dk : DkA} {HS H : Hp} {p : Addr} {vs : List V} {ds : List D} (w : Wd T dk HS H) (hp : H p = none) (q : Rvs K HS vs ds) : Stp T dk HS H (upd HS p (.tup vs)) (upd H p (.tup vs)) ∧ Rv K (upd HS p (.tup vs)) (.ref p) (.tuple ds) := by
  have s := w.lay (o := .tup vs) hp
  exact ⟨s, .tup upd_same (dps_same s.sh _ _ q)⟩
theorem new_lst {K : PySem.W.Frag} {dk : DkA} {HS H : Hp} {p : Addr} {vs : List V} {ds : List D} (w : Wd T dk HS H) (hp : H p = none) (q : Rvs K HS vs ds) : Stp T dk HS H (upd HS p (.lst vs)) (upd H p (.lst vs)) ∧ Rv K (upd HS p (.lst vs)) (.ref p) (.list ds) := by
  have s := w.lay (o := .lst vs) hp
  exact ⟨s, .lst upd_same (dps_same s.sh _ _ q)⟩
/-- two ints in, an int out -/
theorem op_ii {f : Value → Value → Sem Value} {g : D → D → Option D} {C : Int → Int → Prop} {gi : Int → Int → Int} (h : OpR X f (rI C fun i j => .int (gi i j)))
    (hg : ∀ dx dy dz, g dx dy = some dz → ∃ i j, dx = .int i ∧ dy = .int j ∧ C i j ∧ dz = .int (gi i j)) : OpR X f (rD T X.K g) :=
  opr_imp h fun x y H Q q => by
    obtain ⟨dx, dy, dz, e, i1, i2, i3, _⟩ := rD_int q
    obtain ⟨i, j, e1, e2, c, e3⟩ := hg _ _ _ e
    exact ⟨i, j, i1 _ e1, i2 _ e2, c, i3 _ e3⟩
theorem op_ii0 {f : Value → Value → Sem Value} {g : D → D → Option D} {gi : Int → Int → Int} (h : OpR X f (rI0 fun i j => .int (gi i j)))
    (hg : ∀ dx dy dz, g dx dy = some dz → ∃ i j, dx = .int i ∧ dy = .int j ∧ dz = .int (gi i j)) : OpR X f (rD T X.K g) :=
  opr_imp h fun x y H Q q => by
    obtain ⟨dx, dy, dz, e, i1, i2, i3, _⟩ := rD_int q
    obtain ⟨i, j, e1, e2, e3⟩ := hg _ _ _ e
    exact ⟨i, j, i1 _ e1, i2 _ e2, i3 _ e3⟩
theorem do_sub : OpR X (binaryOp .Sub) (rD T X.K oSub) := op_ii0 op_sub fun dx dy dz e => by
  cases dx <;> cases dy <;> first | (cases e; exact ⟨_, _, rfl, rfl, rfl⟩) | cases e
theorem do_and : OpR X (binaryOp .BitAnd) (rD T X.K oAnd) := op_ii0 op_and fun dx dy dz e => by
  cases dx <;> cases dy <;> first | (cases e; exact ⟨_, _, rfl, rfl, rfl⟩) | cases e
theorem do_or : OpR X (binaryOp .BitOr) (rD T X.K oOr) := op_ii0 op_or fun dx dy dz e => by
  cases dx <;> cases dy <;> first | (cases e; exact ⟨_, _, rfl, rfl, rfl⟩) | cases e
theorem do_xor : OpR X (binaryOp .BitXor) (rD T X.K oXor) := op_ii0 op_xor fun dx dy dz e => by
  cases dx <;> cases dy <;> first | (cases e; exact ⟨_, _, rfl, rfl, rfl⟩) | cases e
theorem if_some {α : Type} {c : Prop} [Decidable c] {a z : α} (h : (if c then some a else none) = some z) : c ∧ z = a := by
  by_cases q : c
  · rw [if_pos q] at h; exact ⟨q, (Option.some.inj h).symm⟩
  · rw [if_neg q] at h; cases h
theorem do_div : OpR X (binaryOp .FloorDiv) (rD T X.K oDiv) := op_ii op_fdivW fun dx dy dz e => by
  cases dx <;> cases dy <;> first | (obtain ⟨c, rfl⟩ := if_some e; exact ⟨_, _, rfl, rfl, c, rfl⟩) | cases e
theorem do_mod : OpR X (binaryOp .Mod) (rD T X.K oMod) := op_ii op_mod fun dx dy dz e => by
  cases dx <;> cases dy <;> first | (obtain ⟨c, rfl⟩ := if_some e; exact ⟨_, _, rfl, rfl, c, rfl⟩) | cases e
theorem do_pow : OpR X (binaryOp .Pow) (rD T X.K oPow) := op_ii op_pow fun dx dy dz e => by
  cases dx <;> cases dy <;> first | (obtain ⟨c, rfl⟩ := if_some e; exact ⟨_, _, rfl, rfl, c, rfl⟩) | cases e
theorem do_shl : OpR X (binaryOp .LShift) (rD T X.K oShl) := op_ii op_shl fun dx dy dz e => by
  cases dx <;> cases dy <;> first | (obtain ⟨c, rfl⟩ := if_some e; exact ⟨_, _, rfl, rfl, c, rfl⟩) | cases e
theorem do_shr : OpR X (binaryOp .RShift) (rD T X.K oShr) := op_ii op_shr fun dx dy dz e => by
  cases dx <;> cases dy <;> first | (obtain ⟨c, rfl⟩ := if_some e; exact ⟨_, _, rfl, rfl, c, rfl⟩) | cases e
theorem do_add : OpR X (binaryOp .Add) (rD T X.K oAdd) :=
  opr_imp (opr_or op_add (opr_or op_catA (opr_or op_cat op_add_str))) fun x y H Q q => by
    obtain ⟨dk, HS, dx, dy, dz, w, rx, ry, e, k⟩ := q
    cases dx <;> cases dy <;> try cases e
    case int.int i j =>
      exact .inl ⟨i, j, rx.int, ry.int, k _ HS H (Stp.refl w) (.int _)⟩
    case str.str i j =>
      obtain ⟨c, rfl⟩ := if_some e
      exact .inr (.inr (.inr ⟨i, j, rx.str, ry.str, c, k _ HS H (Stp.refl w) (.str _)⟩))
    case tuple.tuple i j =>
      obtain ⟨c, rfl⟩ := if_some e
      obtain ⟨p, xs, rfl, h1, h2, h3⟩ := rx.tup w
      obtain ⟨p', ys, rfl, h1', h2', h3'⟩ := ry.tup w
      refine .inr (.inl ⟨p, p', xs, ys, rfl, rfl, h2, h2', by rw [h3.len, h3'.len]; exact c, fun z => ?_, fun _ z => ?_, fun _ _ r hr => ?_⟩)
      · subst z
        cases h3
        exact k _ HS H (Stp.refl w) (.tup h1' h3')
      · subst z
        cases h3'
        rw [List.append_nil] at k
        exact k _ HS H (Stp.refl w) (.tup h1 h3)
      · obtain ⟨s, rv⟩ := new_tup w hr (h3.app h3')
        exact k _ _ _ s rv
    case list.list i j =>
      obtain ⟨c, rfl⟩ := if_some e
      obtain ⟨p, xs, rfl, h1, h3⟩ := rx.lst w
      obtain ⟨p', ys, rfl, h1', h3'⟩ := ry.lst w
      refine .inr (.inr (.inl ⟨p, p', xs, ys, rfl, rfl, h1, h1', by rw [h3.len, h3'.len]; exact c, fun r hr => ?_⟩))
      obtain ⟨s, rv⟩ := new_lst w hr (h3.app h3')
      exact k _ _ _ s rv
theorem Rvs.repA {K : PySem.W.Frag} {H : Hp} {vs : List V} {ds : List D} (h : Rvs K H vs ds) : ∀ n : Nat, Rvs K H (List.replicate n vs).flatten (List.replicate n ds).flatten
  | 0 => .nil
  | n + 1 => by
    rw [List.replicate_succ, List.replicate_succ, List.flatten_cons, List.flatten_cons]
    exact h.app (Rvs.repA h n)
theorem do_mul : OpR X (binaryOp .Mult) (rD T X.K oMul) :=
  opr_imp (opr_or op_mul (opr_or op_mulW (opr_or op_rep (opr_or op_repT HT.op_rep1)))) fun x y H Q q => by
    obtain ⟨dk, HS, dx, dy, dz, w, rx, ry, e, k⟩ := q
    cases dx <;> cases dy <;> try cases e
    case int.int i j =>
      obtain ⟨c, rfl⟩ := if_some e
      rcases c with c | c
      · exact .inl ⟨i, j, rx.int, ry.int, c, k _ HS H (Stp.refl w) (.int _)⟩
      · exact .inr (.inl ⟨i, j, rx.int, ry.int, c, k _ HS H (Stp.refl w) (.int _)⟩)
    case list.int ds n =>
      obtain ⟨c, rfl⟩ := if_some e
      obtain ⟨p, xs, rfl, h1, h3⟩ := rx.lst w
      refine .inr (.inr (.inl ⟨p, n, xs, rfl, ry.int, h1, c.1, c.2.1, by rw [h3.len]; exact c.2.2, fun r hr => ?_⟩))
      obtain ⟨s, rv⟩ := new_lst w hr (h3.repA n.toNat)
      exact k _ _ _ s rv
    case tuple.int ds n =>
      have e0 : (if ds ≠ [] ∧ 2 ≤ n ∧ n ≤ 1000 ∧ ds.length ≤ 1000 then some (PyData.tuple (List.replicate n.toNat ds).flatten) else if n = 1 then some (PyData.tuple ds) else none) = some dz := e
      obtain ⟨p, xs, rfl, h1, h2, h3⟩ := rx.tup w
      by_cases c : ds ≠ [] ∧ 2 ≤ n ∧ n ≤ 1000 ∧ ds.length ≤ 1000
      · rw [if_pos c] at e0
        cases e0
        refine .inr (.inr (.inr (.inl ⟨p, n, xs, rfl, ry.int, h2, fun z => c.1 ?_, c.2.1, c.2.2.1, by rw [h3.len]; exact c.2.2.2, fun r hr => ?_⟩)))
        · subst z
          cases h3
          rfl
        · obtain ⟨s, rv⟩ := new_tup w hr (h3.repA n.toNat)
          exact k _ _ _ s rv
      · rw [if_neg c] at e0
        by_cases c1 : n = 1
        · rw [if_pos c1] at e0
          cases e0
          subst c1
          exact .inr (.inr (.inr (.inr ⟨p, xs, rfl, ry.int, h2, k _ HS H (Stp.refl w) (.tup h1 h3)⟩)))
        · rw [if_neg c1] at e0; cases e0
theorem do_neg : UnR X (unaryOp .USub) (rD1 T X.K oNeg) := fun pins s σ H x v Q I rx q => by
  obtain ⟨dk, HS, dx, dz, w, r, e, k⟩ := q
  cases dx <;> try cases e
  case int i => exact un_neg pins s σ H x v Q I rx ⟨i, r.int, k _ HS H (Stp.refl w) (.int _)⟩
end
end DL

namespace DL
open PySem PySem.Spec PyProof.Rows L2

/-! ### comparisons -/
def okD (d : D) : Bool := SeqAt.shaped d
def cEq : D → D → Option Bool
  | .str a, .str b => some (decide (a = b))
  | d, e => if okD d = true ∧ okD e = true then some (PyData.eqv d e) else none
def cNe : D → D → Option Bool
  | .str a, .str b => some (!decide (a = b))
  | d, e => if okD d = true ∧ okD e = true then some (!PyData.eqv d e) else none
/-- the ints of a list of data, where they are ints -/
def intsOf : List D → Option (List Int)
  | [] => some []
  | .int i :: r => (intsOf r).map (i :: ·)
  | _ => none
theorem intsOf_eq : ∀ {ds : List D} {ns : List Int}, intsOf ds = some ns → ds = ns.map PyData.int
  | [], ns, h => by cases h; rfl
  | .int i :: r, ns, h => by
    have h' : (intsOf r).map (i :: ·) = some ns := h
    cases e : intsOf r with
    | none => rw [e] at h'; cases h'
    | some ms =>
      rw [e] at h'
      have h2 : i :: ms = ns := Option.some.inj h'
      subst h2
      rw [intsOf_eq e]
      rfl
theorem intsOf_map : ∀ ns : List Int, intsOf (ns.map PyData.int) = some ns
  | [] => rfl
  | n :: r => by
    show (intsOf (r.map PyData.int)).map (n :: ·) = _
    rw [intsOf_map r]
    rfl
def cLt : D → D → Option Bool
  | .int a, .int b => some (decide (a < b))
  | .str a, .str b => some (decide (a.cps.toList < b.cps.toList))
  | .tuple a, .tuple b => (intsOf a).bind fun ns => (intsOf b).map fun ms => HT.lexLt ns ms
  | _, _ => none
def cLe : D → D → Option Bool
  | .int a, .int b => some (decide (a ≤ b))
  | _, _ => none
def cGt : D → D → Option Bool
  | .int a, .int b => some (decide (b < a))
  | .str a, .str b => some (decide (b.cps.toList < a.cps.toList))
  | _, _ => none
def cGe : D → D → Option Bool
  | .int a, .int b => some (decide (b ≤ a))
  | _, _ => none
def isNone : D → Bool
  | .none => true
  | _ => false
def cIs (d e : D) : Option Bool := if isNone e = true then some (isNone d) else none
def cIsNot (d e : D) : Option Bool := if isNone e = true then some (!isNone d) else none
def memD (d : D) (ds : List D) : Bool := ds.any fun z => PyData.eqv z d
def itemsOf : D → Option (List D)
  | .list ds => some ds
  | .tuple ds => some ds
  | _ => none
def cIn (d c : D) : Option Bool := if okD d = true ∧ okD c = true then (itemsOf c).map (memD d) else none
def cNotIn (d c : D) : Option Bool := if okD d = true ∧ okD c = true then (itemsOf c).map (fun ds => !memD d ds) else none
def rB (T : DKd) (K : PySem.W.Frag) (g : D → D → Option Bool) : R2 := fun x y H Q => ∃ dk HS dx dy b, Wd T dk HS H ∧ RpR K dk HS H x dx ∧ RpR K dk HS H y dy ∧ g dx dy = some b ∧ Q (.bl b) H
section
variable {T : DKd} {X : Cx}
theorem if_some' {α : Type} {c : Prop} [Decidable c] {a : Option α} {z : α} (h : (if c then a else none) = some z) : c ∧ a = some z := by
  by_cases q : c
  · rw [if_pos q] at h; exact ⟨q, h⟩
  · rw [if_neg q] at h; cases h
theorem dec_str {i j : Str} : decide (V.str i = V.str j) = decide (i = j) := by
  by_cases h : i = j
  · subst h; simp
  · rw [decide_eq_false h, decide_eq_false fun z => h (V.str.inj z)]
theorem do_eq (hu : X.A.units + 64 < cLine) : OpR X (compareOp .Eq) (rB T X.K cEq) := opr_imp (opr_or op_eq (op_eqD hu)) fun x y H Q q => by
  obtain ⟨dk, HS, dx, dy, dz, w, rx, ry, e, k⟩ := q
  unfold cEq at e
  split at e
  · cases e
    rw [rx.str, ry.str]
    exact .inl ⟨rfl, by rw [dec_str]; exact k⟩
  · obtain ⟨c, rfl⟩ := if_some e
    exact .inr ⟨dx, dy, (rx.rv w).dpS c.1, (ry.rv w).dpS c.2, c.1, c.2, k⟩
theorem do_ne (hu : X.A.units + 64 < cLine) : OpR X (compareOp .NotEq) (rB T X.K cNe) := opr_imp (opr_or op_ne (op_neD hu)) fun x y H Q q => by
  obtain ⟨dk, HS, dx, dy, dz, w, rx, ry, e, k⟩ := q
  unfold cNe at e
  split at e
  · cases e
    rw [rx.str, ry.str]
    exact .inl ⟨rfl, by rw [dec_str]; exact k⟩
  · obtain ⟨c, rfl⟩ := if_some e
    exact .inr ⟨dx, dy, (rx.rv w).dpS c.1, (ry.rv w).dpS c.2, c.1, c.2, k⟩
theorem do_lt (hu : X.A.units + 64 < cLine) : OpR X (compareOp .Lt) (rB T X.K cLt) := opr_imp (opr_or op_lt (opr_or (op_ltT (by omega)) op_lt_str)) fun x y H Q q => by
  obtain ⟨dk, HS, dx, dy, dz, w, rx, ry, e, k⟩ := q
  cases dx <;> cases dy <;> try cases e
  case int.int i j => exact .inl ⟨i, j, rx.int, ry.int, k⟩
  case str.str i j => exact .inr (.inr ⟨i, j, rx.str, ry.str, k⟩)
  case tuple.tuple a b =>
    have e' : ((intsOf a).bind fun ns => (intsOf b).map fun ms => HT.lexLt ns ms) = some dz := e
    cases ea : intsOf a with
    | none => rw [ea] at e'; cases e'
    | some ns =>
      cases eb : intsOf b with
      | none => rw [ea, eb] at e'; cases e'
      | some ms =>
        rw [ea, eb] at e'
        cases e'
        have h1 := intsOf_eq ea
        have h2 := intsOf_eq eb
        subst h1 h2
        obtain ⟨p, xs, rfl, _, s1, r1⟩ := rx.tup w
        obtain ⟨p', ys, rfl, _, s2, r2⟩ := ry.tup w
        have z1 := r1.intsV
        have z2 := r2.intsV
        subst z1 z2
        exact .inr (.inl ⟨p, p', ns, ms, rfl, rfl, s1, s2, k⟩)
theorem do_gt : OpR X (compareOp .Gt) (rB T X.K cGt) := opr_imp (opr_or op_gt op_gt_str) fun x y H Q q => by
  obtain ⟨dk, HS, dx, dy, dz, w, rx, ry, e, k⟩ := q
  cases dx <;> cases dy <;> try cases e
  case int.int i j => exact .inl ⟨i, j, rx.int, ry.int, k⟩
  case str.str i j => exact .inr ⟨i, j, rx.str, ry.str, k⟩
theorem do_le : OpR X (compareOp .LtE) (rB T X.K cLe) := opr_imp op_le fun x y H Q q => by
  obtain ⟨dk, HS, dx, dy, dz, w, rx, ry, e, k⟩ := q
  cases dx <;> cases dy <;> try cases e
  case int.int i j => exact ⟨i, j, rx.int, ry.int, k⟩
theorem do_ge : OpR X (compareOp .GtE) (rB T X.K cGe) := opr_imp op_ge fun x y H Q q => by
  obtain ⟨dk, HS, dx, dy, dz, w, rx, ry, e, k⟩ := q
  cases dx <;> cases dy <;> try cases e
  case int.int i j => exact ⟨i, j, rx.int, ry.int, k⟩
theorem rv_isNone {K : PySem.W.Frag} {dk : DkA} {HS H : Hp} {v : V} {d : D} (r : RpR K dk HS H v d) : decide (v = .non) = isNone d := by
  rcases r with r | ⟨p, vs, ds, rfl, rfl, _⟩
  · cases r <;> rfl
  · rfl
theorem rv_none {K : PySem.W.Frag} {dk : DkA} {HS H : Hp} {v : V} {d : D} (r : RpR K dk HS H v d) (h : isNone d = true) : v = .non := by
  have e := rv_isNone r
  rw [h] at e
  exact of_decide_eq_true e
theorem do_is : OpR X (compareOp .Is) (rB T X.K cIs) := opr_imp op_isN fun x y H Q q => by
  obtain ⟨dk, HS, dx, dy, dz, w, rx, ry, e, k⟩ := q
  obtain ⟨c, rfl⟩ := if_some e
  refine ⟨rv_none ry c, ?_⟩
  rw [rv_isNone rx]
  exact k
theorem do_isnot : OpR X (compareOp .IsNot) (rB T X.K cIsNot) := opr_imp op_notN fun x y H Q q => by
  obtain ⟨dk, HS, dx, dy, dz, w, rx, ry, e, k⟩ := q
  obtain ⟨c, rfl⟩ := if_some e
  refine ⟨rv_none ry c, ?_⟩
  rw [rv_isNone rx]
  exact k
def rInTD (K : PySem.W.Frag) : R2 := fun x y H Q => ∃ d ds, Dp K H x d ∧ Dp K H y (.tuple ds) ∧ SeqAt.shaped d = true ∧ SeqAt.shaped (.tuple ds) = true ∧ Q (.bl (ds.any fun z => PyData.eqv z d)) H
def rNotInTD (K : PySem.W.Frag) : R2 := fun x y H Q => ∃ d ds, Dp K H x d ∧ Dp K H y (.tuple ds) ∧ SeqAt.shaped d = true ∧ SeqAt.shaped (.tuple ds) = true ∧ Q (.bl (!ds.any fun z => PyData.eqv z d)) H
theorem op_inTD (hu : X.A.units + 65 < cLine) : OpR X (compareOp .In) (rInTD X.K) := fun pins s σ H x y v u Q I rx ry ⟨d, ds, hd, he, sd, se, q⟩ => by
  obtain ⟨as, q1⟩ := Dp.reads I d x v hd rx
  obtain ⟨bs, q2⟩ := Dp.reads I (.tuple ds) y u he ry
  exact SeqAt.in_tuple_reads q2 q1 (SeqAt.canLay_of_shaped se) (SeqAt.canLay_of_shaped sd) (room_in_shaped sd hu) ⟨.bl _, H, I, rfl, q⟩
theorem op_notInTD (hu : X.A.units + 65 < cLine) : OpR X (compareOp .NotIn) (rNotInTD X.K) := fun pins s σ H x y v u Q I rx ry ⟨d, ds, hd, he, sd, se, q⟩ => by
  obtain ⟨as, q1⟩ := Dp.reads I d x v hd rx
  obtain ⟨bs, q2⟩ := Dp.reads I (.tuple ds) y u he ry
  exact SeqAt.notIn_tuple_reads q2 q1 (SeqAt.canLay_of_shaped se) (SeqAt.canLay_of_shaped sd) (room_in_shaped sd hu) ⟨.bl _, H, I, rfl, q⟩
theorem do_in (hu : X.A.units + 65 < cLine) : OpR X (compareOp .In) (rB T X.K cIn) := opr_imp (opr_or (op_inD hu) (op_inTD hu)) fun x y H Q q => by
  obtain ⟨dk, HS, dx, dy, dz, w, rx, ry, e, k⟩ := q
  obtain ⟨c, e⟩ := if_some' e
  cases dy <;> try cases e
  case list ds => exact .inl ⟨dx, ds, (rx.rv w).dpS c.1, (ry.rv w).dpS c.2, c.1, c.2, k⟩
  case tuple ds => exact .inr ⟨dx, ds, (rx.rv w).dpS c.1, (ry.rv w).dpS c.2, c.1, c.2, k⟩
theorem do_notin (hu : X.A.units + 65 < cLine) : OpR X (compareOp .NotIn) (rB T X.K cNotIn) := opr_imp (opr_or (op_notInD hu) (op_notInTD hu)) fun x y H Q q => by
  obtain ⟨dk, HS, dx, dy, dz, w, rx, ry, e, k⟩ := q
  obtain ⟨c, e⟩ := if_some' e
  cases dy <;> try cases e
  case list ds => exact .inl ⟨dx, ds, (rx.rv w).dpS c.1, (ry.rv w).dpS c.2, c.1, c.2, k⟩
  case tuple ds => exact .inr ⟨dx, ds, (rx.rv w).dpS c.1, (ry.rv w).dpS c.2, c.1, c.2, k⟩
end

/-! ### tests -/
def truth : D → Option Bool
  | .none => some false
  | .bool b => some b
  | .int i => some (i != 0)
  | .list ds => some (!ds.isEmpty)
  | .tuple ds => some (!ds.isEmpty)
  | _ => none
/-- a test by a value's truth -/
def xT (ta : DT D) : DT Bool := fun ρ P => ta ρ fun d => ∃ b, truth d = some b ∧ P b
/-- a comparison -/
def xc (g : D → D → Option Bool) (ta tb : DT D) : DT Bool := fun ρ P => ta ρ fun x => tb ρ fun y => ∃ b, g x y = some b ∧ P b
def xAnd (a b : DT Bool) : DT Bool := fun ρ P => a ρ fun c => if c = true then b ρ P else P false
def xOr (a b : DT Bool) : DT Bool := fun ρ P => a ρ fun c => if c = true then P true else b ρ P
def xNot (a : DT Bool) : DT Bool := fun ρ P => a ρ fun c => P (!c)
def xIf {α : Type} (c : DT Bool) (a b : DT α) : DT α := fun ρ P => c ρ fun k => if k = true then a ρ P else b ρ P
/-- a test's answer as a value -/
def xB (a : DT Bool) : DT D := fun ρ P => a ρ fun c => P (.bool c)
/-- a ? b ? c -/
def xcc (g g' : D → D → Option Bool) (ta tb tc : DT D) : DT Bool := fun ρ P => ta ρ fun x => tb ρ fun y => ∃ k, g x y = some k ∧ if k = true then tc ρ fun z => ∃ r, g' y z = some r ∧ P r else P false
/-- and, or of bools, as values -/
def xAndV (a b : DT D) : DT D := fun ρ P => a ρ fun d => ∃ c, d = .bool c ∧ if c = true then b ρ P else P (.bool false)
def xOrV (a b : DT D) : DT D := fun ρ P => a ρ fun d => ∃ c, d = .bool c ∧ if c = true then P (.bool true) else b ρ P
def xNotV (a : DT D) : DT D := fun ρ P => a ρ fun d => ∃ c, d = .bool c ∧ P (.bool (!c))
structure DW (T : DKd) (X : Cx) (e : Expr) (t : DT Bool) : Prop where
  pw : PW X e (lT T X.K t)
section
variable {T : DKd} {X : Cx} {a b c e : Expr} {ta tb tc : DT D} {sa sb sc : DT Bool} {pos : Pos} {g g' : D → D → Option Bool} {rest : List Expr}
theorem truth_ok {K : PySem.W.Frag} {dk : DkA} {HS H : Hp} {v : V} {d : D} {k : Bool} (w : Wd T dk HS H) (r : RpR K dk HS H v d) (e : truth d = some k) : TruV K v H k := by
  cases d with
  | none => cases e; rw [r.non]; rfl
  | bool b => cases e; rw [r.bool]; rfl
  | int i => cases e; rw [r.int]; rfl
  | list ds =>
    cases e
    obtain ⟨p, vs, rfl, h, q⟩ := r.lst w
    refine .inl ⟨vs, SqL.of h, ?_⟩
    cases q <;> rfl
  | tuple ds =>
    cases e
    obtain ⟨p, vs, rfl, _, h, q⟩ := r.tup w
    refine .inr (.inl ⟨vs, h, ?_⟩)
    cases q <;> rfl
  | str x => cases e
  | dict x => cases e
theorem db_truth (ha : DR T X a ta) (he : ∀ whole, isTrue a X.env whole = (do let v ← whole; standAt a.pos; holding [v] (truthy v)) := by intro _; rfl) : DB T X a (xT ta) :=
  ⟨PT.imp (pt_truth ha.pe he) fun σ H Q h => by
    obtain ⟨en, ρ, dk, HS, P, E, q, k⟩ := h
    refine ⟨en, ρ, dk, HS, _, E, q, fun d v HS1 H1 p s r => ?_⟩
    obtain ⟨b, e1, pz⟩ := p
    exact ⟨b, truth_ok s.wd r e1, k b HS1 H1 pz s⟩⟩
theorem db_cmp {op : CmpOp} (ho : OpR X (compareOp op) (rB T X.K g)) (ha : DR T X a ta) (hb : DR T X b tb) (hm : behindInMarks op b = false) : DB T X (.Compare a [op] [b] pos) (xc g ta tb) :=
  ⟨PT.imp (pt_cmpR ho ha.pe hb.pe hm) fun σ H Q h => by
    obtain ⟨en, ρ, dk, HS, P, E, q, k⟩ := h
    refine ⟨en, ρ, dk, HS, _, E, q, fun d v HS1 H1 p s r => ⟨en, ρ, dk, HS1, _, E.stp s, p, fun d2 v2 HS2 H2 p2 s2 r2 => ?_⟩⟩
    obtain ⟨z, e, pz⟩ := p2
    exact ⟨dk, HS2, d, d2, z, s2.wd, r.step s2, r2, e, z, rfl, k z HS2 H2 pz (s.trans s2)⟩⟩
theorem d_cmp {op : CmpOp} (ho : OpR X (compareOp op) (rB T X.K g)) (ha : DR T X a ta) (hb : DR T X b tb) (hm : behindInMarks op b = false) : DE T X (.Compare a [op] [b] pos) (xB (xc g ta tb)) :=
  ⟨PE.imp (pe_cmpR ho ha.pe hb.pe hm) fun σ H Q h => by
    obtain ⟨en, ρ, dk, HS, P, E, q, k⟩ := h
    refine ⟨en, ρ, dk, HS, _, E, q, fun d v HS1 H1 p s r => ⟨en, ρ, dk, HS1, _, E.stp s, p, fun d2 v2 HS2 H2 p2 s2 r2 => ?_⟩⟩
    obtain ⟨z, e, pz⟩ := p2
    exact ⟨dk, HS2, d, d2, z, s2.wd, r.step s2, r2, e, k (.bool z) (.bl z) HS2 H2 pz (s.trans s2) (.bl z)⟩⟩
theorem db_chain {op op' : CmpOp} (ho : OpR X (compareOp op) (rB T X.K g)) (ho' : OpR X (compareOp op') (rB T X.K g')) (ha : DR T X a ta) (hb : DR T X b tb) (hc : DR T X c tc)
    (hm : lastMarks [op, op'] [b, c] = false := by with_unfolding_all rfl) : DB T X (.Compare a [op, op'] [b, c] pos) (xcc g g' ta tb tc) :=
  ⟨PT.imp (pt_chain ho ho' ha.pe hb.pe hc.pe hm) fun σ H Q h => by
    obtain ⟨en, ρ, dk, HS, P, E, q, k⟩ := h
    refine ⟨en, ρ, dk, HS, _, E, q, fun d v HS1 H1 p s r => ⟨en, ρ, dk, HS1, _, E.stp s, p, fun d2 v2 HS2 H2 p2 s2 r2 => ?_⟩⟩
    obtain ⟨z, e, pz⟩ := p2
    refine ⟨dk, HS2, d, d2, z, s2.wd, r.step s2, r2, e, z, rfl, ?_⟩
    cases z with
    | false => exact ⟨false, rfl, k false HS2 H2 pz (s.trans s2)⟩
    | true =>
      refine ⟨en, ρ, dk, HS2, _, (E.stp s).stp s2, pz, fun d3 v3 HS3 H3 p3 s3 r3 => ?_⟩
      obtain ⟨z3, e3, pz3⟩ := p3
      exact ⟨dk, HS3, d2, d3, z3, s3.wd, r2.step s3, r3, e3, z3, rfl, k z3 HS3 H3 pz3 (s.trans (s2.trans s3))⟩⟩
theorem d_chain {op op' : CmpOp} (ho : OpR X (compareOp op) (rB T X.K g)) (ho' : OpR X (compareOp op') (rB T X.K g')) (ha : DR T X a ta) (hb : DR T X b tb) (hc : DR T X c tc)
    (hm : lastMarks [op, op'] [b, c] = false := by with_unfolding_all rfl) : DE T X (.Compare a [op, op'] [b, c] pos) (xB (xcc g g' ta tb tc)) :=
  ⟨PE.imp (pe_chain ho ho' ha.pe hb.pe hc.pe hm) fun σ H Q h => by
    obtain ⟨en, ρ, dk, HS, P, E, q, k⟩ := h
    refine ⟨en, ρ, dk, HS, _, E, q, fun d v HS1 H1 p s r => ⟨en, ρ, dk, HS1, _, E.stp s, p, fun d2 v2 HS2 H2 p2 s2 r2 => ?_⟩⟩
    obtain ⟨z, e, pz⟩ := p2
    refine ⟨dk, HS2, d, d2, z, s2.wd, r.step s2, r2, e, z, rfl, ?_⟩
    cases z with
    | false => exact k (.bool false) (.bl false) HS2 H2 pz (s.trans s2) (.bl false)
    | true =>
      refine ⟨en, ρ, dk, HS2, _, (E.stp s).stp s2, pz, fun d3 v3 HS3 H3 p3 s3 r3 => ?_⟩
      obtain ⟨z3, e3, pz3⟩ := p3
      exact ⟨dk, HS3, d2, d3, z3, s3.wd, r2.step s3, r3, e3, k (.bool z3) (.bl z3) HS3 H3 pz3 (s.trans (s2.trans s3)) (.bl z3)⟩⟩
theorem lift_and {ta tb : DT Bool} (σ : L2.St) (H : Hp) (Q : Bool → Hp → Prop) (h : lT T X.K (xAnd ta tb) σ H Q) : tAnd (lT T X.K ta) (lT T X.K tb) σ H Q := by
  obtain ⟨en, ρ, dk, HS, P, E, q, k⟩ := h
  refine ⟨en, ρ, dk, HS, _, E, q, fun b HS1 H1 p s => ?_⟩
  cases b with
  | false => exact k false HS1 H1 p s
  | true => exact ⟨en, ρ, dk, HS1, P, E.stp s, p, fun b2 HS2 H2 p2 s2 => k b2 HS2 H2 p2 (s.trans s2)⟩
theorem lift_or {ta tb : DT Bool} (σ : L2.St) (H : Hp) (Q : Bool → Hp → Prop) (h : lT T X.K (xOr ta tb) σ H Q) : tOr (lT T X.K ta) (lT T X.K tb) σ H Q := by
  obtain ⟨en, ρ, dk, HS, P, E, q, k⟩ := h
  refine ⟨en, ρ, dk, HS, _, E, q, fun b HS1 H1 p s => ?_⟩
  cases b with
  | true => exact k true HS1 H1 p s
  | false => exact ⟨en, ρ, dk, HS1, P, E.stp s, p, fun b2 HS2 H2 p2 s2 => k b2 HS2 H2 p2 (s.trans s2)⟩
theorem DW.db (h : DW T X a sa) : DB T X a sa := ⟨PW.pt h.pw⟩
theorem dw_and1 (ha : DB T X a sa) : DW T X (.BoolOp .And [a] pos) sa := ⟨pw_and1 ha.pt⟩
theorem dw_or1 (ha : DB T X a sa) : DW T X (.BoolOp .Or [a] pos) sa := ⟨pw_or1 ha.pt⟩
theorem dw_and (ha : DB T X a sa) (hb : DW T X (.BoolOp .And (b :: rest) pos) sb) : DW T X (.BoolOp .And (a :: b :: rest) pos) (xAnd sa sb) := ⟨PW.imp (pw_and ha.pt hb.pw) lift_and⟩
theorem dw_or (ha : DB T X a sa) (hb : DW T X (.BoolOp .Or (b :: rest) pos) sb) : DW T X (.BoolOp .Or (a :: b :: rest) pos) (xOr sa sb) := ⟨PW.imp (pw_or ha.pt hb.pw) lift_or⟩
theorem db_not (ha : DB T X a sa) : DB T X (.UnaryOp .Not a pos) (xNot sa) := ⟨PT.imp (pt_not ha.pt) fun σ H Q h => by
  obtain ⟨en, ρ, dk, HS, P, E, q, k⟩ := h
  exact ⟨en, ρ, dk, HS, _, E, q, fun b HS1 H1 p s => k (!b) HS1 H1 p s⟩⟩
theorem d_if (hc : DB T X c sc) (ha : DE T X a ta) (hb : DE T X b tb) : DE T X (.IfExp c a b pos) (xIf sc ta tb) := ⟨PE.imp (pe_ifExp hc.pt ha.pe hb.pe) fun σ H Q h => by
  obtain ⟨en, ρ, dk, HS, P, E, q, k⟩ := h
  refine ⟨en, ρ, dk, HS, _, E, q, fun b HS1 H1 p s => ?_⟩
  cases b with
  | true => exact ⟨en, ρ, dk, HS1, P, E.stp s, p, fun d v HS2 H2 p2 s2 r2 => k d v HS2 H2 p2 (s.trans s2) r2⟩
  | false => exact ⟨en, ρ, dk, HS1, P, E.stp s, p, fun d v HS2 H2 p2 s2 r2 => k d v HS2 H2 p2 (s.trans s2) r2⟩⟩
theorem dr_if (hc : DB T X c sc) (ha : DR T X a ta) (hb : DR T X b tb) : DR T X (.IfExp c a b pos) (xIf sc ta tb) := ⟨PE.imp (pe_ifExp hc.pt ha.pe hb.pe) fun σ H Q h => by
  obtain ⟨en, ρ, dk, HS, P, E, q, k⟩ := h
  refine ⟨en, ρ, dk, HS, _, E, q, fun b HS1 H1 p s => ?_⟩
  cases b with
  | true => exact ⟨en, ρ, dk, HS1, P, E.stp s, p, fun d v HS2 H2 p2 s2 r2 => k d v HS2 H2 p2 (s.trans s2) r2⟩
  | false => exact ⟨en, ρ, dk, HS1, P, E.stp s, p, fun d v HS2 H2 p2 s2 r2 => k d v HS2 H2 p2 (s.trans s2) r2⟩⟩
theorem d_one {op} (h : DE T X a ta) : DE T X (.BoolOp op [a] pos) ta := ⟨pe_one h.pe⟩
theorem d_and (ha : DE T X a ta) (hb : DE T X (.BoolOp .And (b :: rest) pos) tb) : DE T X (.BoolOp .And (a :: b :: rest) pos) (xAndV ta tb) := ⟨PE.imp (pe_and ha.pe hb.pe) fun σ H Q h => by
  obtain ⟨en, ρ, dk, HS, P, E, q, k⟩ := h
  refine ⟨en, ρ, dk, HS, _, E, q, fun d v HS1 H1 p s r => ?_⟩
  obtain ⟨b, rfl, p⟩ := p
  cases r
  refine ⟨b, rfl, ?_⟩
  cases b with
  | true => exact ⟨en, ρ, dk, HS1, P, E.stp s, p, fun d v HS2 H2 p2 s2 r2 => k d v HS2 H2 p2 (s.trans s2) r2⟩
  | false => exact k _ _ HS1 H1 p s (.bl false)⟩
theorem d_or (ha : DE T X a ta) (hb : DE T X (.BoolOp .Or (b :: rest) pos) tb) : DE T X (.BoolOp .Or (a :: b :: rest) pos) (xOrV ta tb) := ⟨PE.imp (pe_or ha.pe hb.pe) fun σ H Q h => by
  obtain ⟨en, ρ, dk, HS, P, E, q, k⟩ := h
  refine ⟨en, ρ, dk, HS, _, E, q, fun d v HS1 H1 p s r => ?_⟩
  obtain ⟨b, rfl, p⟩ := p
  cases r
  refine ⟨b, rfl, ?_⟩
  cases b with
  | false => exact ⟨en, ρ, dk, HS1, P, E.stp s, p, fun d v HS2 H2 p2 s2 r2 => k d v HS2 H2 p2 (s.trans s2) r2⟩
  | true => exact k _ _ HS1 H1 p s (.bl true)⟩
theorem d_not (ha : DE T X a ta) : DE T X (.UnaryOp .Not a pos) (xNotV ta) := ⟨PE.imp (pe_not ha.pe) fun σ H Q h => by
  obtain ⟨en, ρ, dk, HS, P, E, q, k⟩ := h
  refine ⟨en, ρ, dk, HS, _, E, q, fun d v HS1 H1 p s r => ?_⟩
  obtain ⟨b, rfl, p⟩ := p
  cases r
  exact ⟨b, rfl, k _ _ HS1 H1 p s (.bl _)⟩⟩
end
end DL

namespace DL
open PySem PySem.Spec PyProof.Rows L2

/-! ### several values -/
/-- data that are kept, from the left -/
def lI (T : DKd) (K : PySem.W.Frag) (t : DT (List D)) : TA := fun σ H Q => ∃ en ρ dk HS P, EnvR T K en ρ dk HS H σ ∧ t ρ P ∧ ∀ ds vs HS1 H1, P ds → Stp T dk HS H HS1 H1 → Rvs K HS1 vs ds → Q vs H1
structure DI (T : DKd) (X : Cx) (es : List Expr) (t : DT (List D)) : Prop where
  pa : PA X es (lI T X.K t)
def xNil {α : Type} : DT (List α) := fun _ P => P []
def xCons {α : Type} (ta : DT α) (tr : DT (List α)) : DT (List α) := fun ρ P => ta ρ fun x => tr ρ fun xs => P (x :: xs)
def xArD (ta : DT D) : DT Ar := fun ρ P => ta ρ fun d => P (.d d)
/-- the source of drawn numbers as an argument -/
def xDeck (i : Nat) : DT Ar := fun ρ P => sl ρ i = .deck ∧ P .dk
section
variable {T : DKd} {X : Cx} {e : Expr} {es : List Expr} {ta : DT D} {tr : DT (List D)} {tar : DT (List Ar)} {pos : Pos}
theorem RpRs.step {K : PySem.W.Frag} {dk : DkA} {HS H HS1 H1 : Hp} (s : Stp T dk HS H HS1 H1) : ∀ {vs : List V} {ds : List D}, RpRs K dk HS H vs ds → RpRs K dk HS1 H1 vs ds
  | [], [], _ => trivial
  | _ :: _, _ :: _, ⟨h, t⟩ => ⟨h.step s, RpRs.step s t⟩
  | [], _ :: _, h => h.elim
  | _ :: _, [], h => h.elim
theorem ArsR.step {K : PySem.W.Frag} {dk : DkA} {HS HS1 : Hp} (s : Same HS HS1) : ∀ {vs : List V} {as : List Ar}, ArsR K dk HS vs as → ArsR K dk HS1 vs as
  | _, _, .nil => .nil
  | _, _, .cons (a := .d x) h t => .cons (a := .d x) (dp_same s _ _ h) (ArsR.step s t)
  | _, _, .cons (a := .dk) h t => .cons (a := .dk) h (ArsR.step s t)
theorem di_nil : DI T X [] xNil := ⟨PA.imp pa_nil fun σ H Q ⟨en, ρ, dk, HS, P, E, q, k⟩ => k [] [] HS H q (Stp.refl E.wd) .nil⟩
theorem di_cons (ha : DE T X e ta) (hr : DI T X es tr) (hs : starEach (e :: es) X.env = (false, eval e X.env) :: starEach es X.env := by rfl) : DI T X (e :: es) (xCons ta tr) :=
  ⟨PA.imp (pa_cons ha.pe hr.pa hs) fun σ H Q h => by
    obtain ⟨en, ρ, dk, HS, P, E, q, k⟩ := h
    refine ⟨en, ρ, dk, HS, _, E, q, fun d v HS1 H1 p s r => ⟨en, ρ, dk, HS1, _, E.stp s, p, fun ds vs HS2 H2 p2 s2 r2 => ?_⟩⟩
    exact k (d :: ds) (v :: vs) HS2 H2 p2 (s.trans s2) (.cons (dp_same s2.sh _ _ r) r2)⟩
theorem dar_nil : DAR T X [] xNil := ⟨PA.imp pa_nil fun σ H Q ⟨en, ρ, dk, HS, P, E, q, k⟩ => k [] [] HS H q (Stp.refl E.wd) trivial⟩
theorem dar_cons (ha : DR T X e ta) (hr : DAR T X es tr) (hs : starEach (e :: es) X.env = (false, eval e X.env) :: starEach es X.env := by rfl) : DAR T X (e :: es) (xCons ta tr) :=
  ⟨PA.imp (pa_cons ha.pe hr.pa hs) fun σ H Q h => by
    obtain ⟨en, ρ, dk, HS, P, E, q, k⟩ := h
    refine ⟨en, ρ, dk, HS, _, E, q, fun d v HS1 H1 p s r => ⟨en, ρ, dk, HS1, _, E.stp s, p, fun ds vs HS2 H2 p2 s2 r2 => ?_⟩⟩
    exact k (d :: ds) (v :: vs) HS2 H2 p2 (s.trans s2) ⟨r.step s2, r2⟩⟩
theorem da_nil : DA T X [] xNil := ⟨PA.imp pa_nil fun σ H Q ⟨en, ρ, dk, HS, P, E, q, k⟩ => k [] [] HS H rfl q (Stp.refl E.wd) .nil⟩
theorem da_cons (ha : DE T X e ta) (hr : DA T X es tar) (hs : starEach (e :: es) X.env = (false, eval e X.env) :: starEach es X.env := by rfl) : DA T X (e :: es) (xCons (xArD ta) tar) :=
  ⟨PA.imp (pa_cons ha.pe hr.pa hs) fun σ H Q h => by
    obtain ⟨en, ρ, dk, HS, P, E, q, k⟩ := h
    refine ⟨en, ρ, dk, HS, _, E, q, fun d v HS1 H1 p s r => ⟨en, ρ, dk, HS1, _, E.stp s, p, fun ds vs HS2 H2 l2 p2 s2 r2 => ?_⟩⟩
    exact k (.d d :: ds) (v :: vs) HS2 H2 (congrArg (· + 1) l2) p2 (s.trans s2) (.cons (a := .d d) (dp_same s2.sh _ _ r) r2)⟩
theorem da_deck {i : Nat} (ha : PE X e (tVar i)) (hr : DA T X es tar) (hs : starEach (e :: es) X.env = (false, eval e X.env) :: starEach es X.env := by rfl) : DA T X (e :: es) (xCons (xDeck i) tar) :=
  ⟨PA.imp (pa_cons ha hr.pa hs) fun σ H Q h => by
    obtain ⟨en, ρ, dk, HS, P, E, ⟨q1, q⟩, k⟩ := h
    obtain ⟨x, h1, p, g, e1, rfl⟩ := E.slots i _ (sl_get q1 fun z => nomatch z)
    refine ⟨_, h1, en, ρ, dk, HS, _, E, q, fun ds vs HS2 H2 l2 p2 s2 r2 => ?_⟩
    exact k (.dk :: ds) (.ref p :: vs) HS2 H2 (congrArg (· + 1) l2) p2 s2 (.cons (a := .dk) ⟨p, g, e1, rfl⟩ r2)⟩
theorem Rvs.cut {K : PySem.W.Frag} {H : Hp} {vs : List V} {ds : List D} (q : Rvs K H vs ds) (lo hi : Option Int) : Rvs K H (cutV vs lo hi) ((ds.drop (HT.sIx ds.length 0 lo)).take (HT.sIx ds.length ds.length hi - HT.sIx ds.length 0 lo)) := by
  have e := q.len
  unfold cutV
  rw [e]
  exact (q.dropA _).takeA _

/-! ### displays -/
def xTup (t : DT (List D)) : DT D := fun ρ P => t ρ fun ds => ds.length ≤ sizeLine ∧ P (.tuple ds)
def xLst (t : DT (List D)) : DT D := fun ρ P => t ρ fun ds => ds.length ≤ sizeLine ∧ P (.list ds)
theorem d_tup {x1} (h : DI T X es tr) : DE T X (.Tuple es x1 pos) (xTup tr) :=
  ⟨PE.imp (pe_tup h.pa) fun σ H Q h => by
    obtain ⟨en, ρ, dk, HS, P, E, q, k⟩ := h
    refine ⟨en, ρ, dk, HS, _, E, q, fun ds vs HS1 H1 p s r => ⟨by rw [r.len]; exact p.1, fun a ha => ?_⟩⟩
    obtain ⟨s2, rv⟩ := new_tup s.wd ha r
    exact k _ _ _ _ p.2 (s.trans s2) rv⟩
theorem d_lst (h : DI T X es tr) : DE T X (.List es pos) (xLst tr) :=
  ⟨PE.imp (pe_lst h.pa) fun σ H Q h => by
    obtain ⟨en, ρ, dk, HS, P, E, q, k⟩ := h
    refine ⟨en, ρ, dk, HS, _, E, q, fun ds vs HS1 H1 p s r => ⟨by rw [r.len]; exact p.1, fun a ha => ?_⟩⟩
    obtain ⟨s2, rv⟩ := new_lst s.wd ha r
    exact k _ _ _ _ p.2 (s.trans s2) rv⟩

/-! ### places -/
def oIx : D → D → Option D
  | .list ds, .int i => atI ds i
  | .tuple ds, .int i => atI ds i
  | .str z, .int i => if z.length ≤ sizeLine then (atI z.cps.toList i).map fun c => .str ⟨#[c]⟩ else none
  | _, _ => none
theorem atI_rvs {K : PySem.W.Frag} {H : Hp} {vs : List V} {ds : List D} (q : Rvs K H vs ds) {i : Int} {d : D} (h : atI ds i = some d) : ∃ v, atI vs i = some v ∧ Rv K H v d := by
  unfold atI at h ⊢
  rw [q.len]
  cases e : ixN ds.length i with
  | none => rw [e] at h; cases h
  | some j =>
    rw [e] at h
    obtain ⟨v, h1, h2⟩ := q.getD (i := j) (d := d) h
    exact ⟨v, h1, h2⟩
theorem do_ix : IxR X (rD T X.K oIx) := fun value slice pins s σ H x y v u Q I rx ry q hs => by
  refine IxR.or ix_list (IxR.or ix_tup ix_str) value slice pins s σ H x y v u Q I rx ry ?_ hs
  obtain ⟨dk, HS, dx, dy, dz, w, rx', ry', e, k⟩ := q
  cases dx <;> cases dy <;> try cases e
  case list.int ds i =>
    obtain ⟨p, vs, rfl, h, q⟩ := rx'.lst w
    obtain ⟨v, h1, h2⟩ := atI_rvs q e
    exact .inl ⟨p, vs, i, v, rfl, ry'.int, SqL.of h, h1, k _ HS H (Stp.refl w) h2⟩
  case tuple.int ds i =>
    obtain ⟨p, vs, rfl, _, h, q⟩ := rx'.tup w
    obtain ⟨v, h1, h2⟩ := atI_rvs q e
    exact .inr (.inl ⟨p, vs, i, v, rfl, ry'.int, h, h1, k _ HS H (Stp.refl w) h2⟩)
  case str.int z i =>
    obtain ⟨c, e'⟩ := if_some' (show (if z.length ≤ sizeLine then (atI z.cps.toList i).map fun c => PyData.str ⟨#[c]⟩ else none) = some dz from e)
    cases ea : atI z.cps.toList i with
    | none => rw [ea] at e'; cases e'
    | some c' =>
      rw [ea] at e'
      cases e'
      exact .inr (.inr ⟨z, i, c', rx'.str, ry'.int, c, ea, k _ HS H (Stp.refl w) (.str _)⟩)
theorem di_ix {a b : Expr} {ta tb : DT D} (ha : DR T X a ta) (hb : DR T X b tb) (hs : PlainIx b := by exact fun _ _ => rfl) : DE T X (.Subscript a b pos) (x2 oIx ta tb) := d_ix do_ix ha hb hs

/-! ### slices -/
def cutD (ds : List D) (lo hi : Option Int) : List D := (ds.drop (HT.sIx ds.length 0 lo)).take (HT.sIx ds.length ds.length hi - HT.sIx ds.length 0 lo)
def oCut (d : D) (lo hi : Option Int) : Option D := match d with
  | .list ds => some (.list (cutD ds lo hi))
  | .tuple ds => some (.tuple (cutD ds lo hi))
  | _ => none
/-- a slice's part -/
def lO (T : DKd) (K : PySem.W.Frag) (t : DT (Option Int)) : TO := fun σ H Q => ∃ en ρ dk HS P, EnvR T K en ρ dk HS H σ ∧ t ρ P ∧ ∀ o HS1 H1, P o → Stp T dk HS H HS1 H1 → Q o H1
structure DO (T : DKd) (X : Cx) (e : Option Expr) (t : DT (Option Int)) : Prop where
  po : PO X e (lO T X.K t)
theorem PO.imp {e : Option Expr} {t t' : TO} (h : PO X e t) (m : ∀ σ H Q, t' σ H Q → t σ H Q) : PO X e t' := ⟨fun pins s σ H Q I q => h.run pins s σ H Q I (m σ H Q q)⟩
def xNo : DT (Option Int) := fun _ P => P none
def xPart (ta : DT D) : DT (Option Int) := fun ρ P => ta ρ fun d => ∃ i, d = .int i ∧ P (some i)
theorem do_no : DO T X none xNo := ⟨PO.imp po_none fun σ H Q ⟨en, ρ, dk, HS, P, E, q, k⟩ => k none HS H q (Stp.refl E.wd)⟩
theorem do_part (h : DE T X e ta) : DO T X (some e) (xPart ta) := ⟨PO.imp (po_some h.pe) fun σ H Q h => by
  obtain ⟨en, ρ, dk, HS, P, E, q, k⟩ := h
  refine ⟨en, ρ, dk, HS, _, E, q, fun d v HS1 H1 p s r => ?_⟩
  obtain ⟨i, rfl, p⟩ := p
  cases r
  exact ⟨i, rfl, k (some i) HS1 H1 p s⟩⟩
def xCut (ta : DT D) (tl th : DT (Option Int)) : DT D := fun ρ P => ta ρ fun x => tl ρ fun lo => th ρ fun hi => ∃ z, oCut x lo hi = some z ∧ P z
theorem d_cut {lo hi : Option Expr} {tl th : DT (Option Int)} {p2 : Pos} (he : DR T X e ta) (hl : DO T X lo tl) (hh : DO T X hi th) : DE T X (.Subscript e (.Slice lo hi none p2) pos) (xCut ta tl th) :=
  ⟨PE.imp (pe_slice (SlR.or sl_list sl_tupA) he.pe hl.po hh.po) fun σ H Q h => by
    obtain ⟨en, ρ, dk, HS, P, E, q, k⟩ := h
    refine ⟨en, ρ, dk, HS, _, E, q, fun d v HS1 H1 p s r => ⟨en, ρ, dk, HS1, _, E.stp s, p, fun lo HS2 H2 p2 s2 => ⟨en, ρ, dk, HS2, _, (E.stp s).stp s2, p2, fun hi HS3 H3 p3 s3 => ?_⟩⟩⟩
    obtain ⟨z, e, pz⟩ := p3
    have r3 := (r.step s2).step s3
    cases d <;> try cases e
    case list ds =>
      obtain ⟨a, vs, rfl, h1, q1⟩ := r3.lst s3.wd
      refine .inl ⟨a, vs, rfl, SqL.of h1, fun b hb => ?_⟩
      obtain ⟨s4, rv⟩ := new_lst s3.wd hb (q1.cut lo hi)
      exact k _ _ _ _ pz (s.trans (s2.trans (s3.trans s4))) rv
    case tuple ds =>
      obtain ⟨a, vs, rfl, h0, h1, q1⟩ := r3.tup s3.wd
      refine .inr ⟨a, vs, rfl, h1, fun w => ?_, fun _ b hb => ?_⟩
      · have e1 : cutD ds lo hi = ds := by
          unfold cutD
          rw [← q1.len, w.1, w.2, List.drop_zero, Nat.sub_zero]
          exact List.take_of_length_le (by rw [q1.len]; exact Nat.le_refl _)
        rw [e1] at pz
        exact k _ _ _ _ pz (s.trans (s2.trans s3)) (.tup h0 q1)
      · obtain ⟨s4, rv⟩ := new_tup s3.wd hb (q1.cut lo hi)
        exact k _ _ _ _ pz (s.trans (s2.trans (s3.trans s4))) rv⟩
def oRev : D → Option D
  | .list ds => some (.list ds.reverse)
  | _ => none
theorem d_rev {k0 : Nat} {p1 p2 p3 : Pos} (he : DR T X e ta) : DE T X (.Subscript e (.Slice none none (some (.UnaryOp .USub (.Constant (.int 1) k0 p1) p2)) p3) pos) (x1 oRev ta) :=
  ⟨PE.imp (pe_revL he.pe) fun σ H Q h => by
    obtain ⟨en, ρ, dk, HS, P, E, q, k⟩ := h
    refine ⟨en, ρ, dk, HS, _, E, q, fun d v HS1 H1 p s r => ?_⟩
    obtain ⟨z, e, pz⟩ := p
    cases d <;> try cases e
    case list ds =>
      obtain ⟨a, vs, rfl, h1, q1⟩ := r.lst s.wd
      refine ⟨a, vs, rfl, SqL.of h1, fun b hb => ?_⟩
      obtain ⟨s2, rv⟩ := new_lst s.wd hb q1.revA
      exact k _ _ _ _ pz (s.trans s2) rv⟩

/-! ### built-in functions by their names -/
def rC (T : DKd) (K : PySem.W.Frag) (g : List D → Option D) : List V → Hp → VK → Prop := fun xs H Q => ∃ dk HS ds dz, Wd T dk HS H ∧ RpRs K dk HS H xs ds ∧ g ds = some dz ∧ ∀ z HS1 H1, Stp T dk HS H HS1 H1 → Rv K HS1 z dz → Q z H1
def xF (g : List D → Option D) (t : DT (List D)) : DT D := fun ρ P => t ρ fun ds => ∃ z, g ds = some z ∧ P z
theorem liftC {r : List V → Hp → VK → Prop} {g : List D → Option D} {t : DT (List D)} (hr : ∀ xs H Q, rC T X.K g xs H Q → r xs H Q) : ∀ σ H Q, lE T X.K (xF g t) σ H Q → tCB r (lAR T X.K t) σ H Q := fun σ H Q h => by
  obtain ⟨en, ρ, dk, HS, P, E, q, k⟩ := h
  refine ⟨en, ρ, dk, HS, _, E, q, fun ds vs HS1 H1 p s r => ?_⟩
  obtain ⟨z, e, pz⟩ := p
  exact hr _ _ _ ⟨dk, HS1, ds, z, s.wd, r, e, fun zv HS3 H3 s3 r3 => k z zv HS3 H3 pz (s.trans s3) r3⟩
theorem d_blt {x : Str} {id : String} {p : Pos} {g : List D → Option D} (hc : CallR X (.builtin id) (rC T X.K g)) (hg : Gl X x) (hm : X.mg x = none) (hv : bootBuiltins x = some (.builtin id)) (ha : DAR T X (e :: es) tr) (hn : x ≠ "__name__" := by decide) (hdb : (x == ("__debug__" : Str)) = false := by decide)
    (he : starEach (e :: es) X.env = (false, eval e X.env) :: starEach es X.env := by rfl) (hpl : (backTo pos (starEach es X.env)).any (·.1) = false := by rfl) : DE T X (.Call (.Name x p) (e :: es) [] pos) (xF g tr) :=
  ⟨PE.imp (pe_callB hc hg hm hv ha.pa hn hdb he hpl) (liftC fun _ _ _ h => h)⟩
theorem d_ty {x : Str} {id : String} {p : Pos} {g : List D → Option D} (hc : CallR X (.type id) (rC T X.K g)) (hg : Gl X x) (hm : X.mg x = none) (hv : bootBuiltins x = some (.type id)) (ha : DAR T X (e :: es) tr) (hn : x ≠ "__name__" := by decide) (hdb : (x == ("__debug__" : Str)) = false := by decide)
    (he : starEach (e :: es) X.env = (false, eval e X.env) :: starEach es X.env := by rfl) (hpl : (backTo pos (starEach es X.env)).any (·.1) = false := by rfl) : DE T X (.Call (.Name x p) (e :: es) [] pos) (xF g tr) :=
  ⟨PE.imp (pe_callTy hc hg hm hv ha.pa hn hdb he hpl) (liftC fun _ _ _ h => h)⟩
theorem callR_imp {f : Value} {r r' : List V → Hp → VK → Prop} (h : CallR X f r) (m : ∀ xs H Q, r' xs H Q → r xs H Q) : CallR X f r' := fun pins s σ H xs us Q I rx q => h pins s σ H xs us Q I rx (m _ _ _ q)
theorem rps1 {K : PySem.W.Frag} {dk : DkA} {HS H : Hp} {xs : List V} {d : D} (h : RpRs K dk HS H xs [d]) : ∃ v, xs = [v] ∧ RpR K dk HS H v d := by
  cases xs with
  | nil => exact h.elim
  | cons v r =>
    cases r with
    | nil => exact ⟨v, rfl, h.1⟩
    | cons _ _ => exact h.2.elim
theorem rps2 {K : PySem.W.Frag} {dk : DkA} {HS H : Hp} {xs : List V} {d d2 : D} (h : RpRs K dk HS H xs [d, d2]) : ∃ v u, xs = [v, u] ∧ RpR K dk HS H v d ∧ RpR K dk HS H u d2 := by
  cases xs with
  | nil => exact h.elim
  | cons v r =>
    obtain ⟨u, rfl, h2⟩ := rps1 h.2
    exact ⟨v, u, rfl, h.1, h2⟩
def fLen : List D → Option D
  | [.list ds] => some (.int ds.length)
  | [.tuple ds] => some (.int ds.length)
  | [.str z] => if z.length ≤ sizeLine then some (.int z.length) else none
  | _ => none
theorem c_len : CallR X (.builtin "len") (rC T X.K fLen) := callR_imp (CallR.or call_len_seq call_len_str) fun xs H Q q => by
  obtain ⟨dk, HS, ds, dz, w, r, e, k⟩ := q
  unfold fLen at e
  split at e
  case h_1 l =>
    cases e
    obtain ⟨v, rfl, rr⟩ := rps1 r
    obtain ⟨a, vs, rfl, h1, q1⟩ := rr.lst w
    refine .inl ⟨a, vs, rfl, .inl (SqL.of h1), ?_⟩
    rw [q1.len]
    exact k _ HS H (Stp.refl w) (.int _)
  case h_2 l =>
    cases e
    obtain ⟨v, rfl, rr⟩ := rps1 r
    obtain ⟨a, vs, rfl, _, h1, q1⟩ := rr.tup w
    refine .inl ⟨a, vs, rfl, .inr h1, ?_⟩
    rw [q1.len]
    exact k _ HS H (Stp.refl w) (.int _)
  case h_3 z =>
    obtain ⟨c, rfl⟩ := if_some e
    obtain ⟨v, rfl, rr⟩ := rps1 r
    exact .inr ⟨z, by rw [rr.str], c, k _ HS H (Stp.refl w) (.int _)⟩
  case h_4 => cases e
def fAbs : List D → Option D
  | [.int i] => some (.int (if i < 0 then -i else i))
  | _ => none
theorem c_abs : CallR X (.builtin "abs") (rC T X.K fAbs) := callR_imp call_abs fun xs H Q q => by
  obtain ⟨dk, HS, ds, dz, w, r, e, k⟩ := q
  unfold fAbs at e
  split at e
  case h_1 i =>
    cases e
    obtain ⟨v, rfl, rr⟩ := rps1 r
    exact ⟨i, by rw [rr.int], k _ HS H (Stp.refl w) (.int _)⟩
  case h_2 => cases e
def fInt : List D → Option D
  | [.int i] => some (.int i)
  | [.bool b] => some (.int (if b then 1 else 0))
  | _ => none
theorem c_int : CallR X (.type "int") (rC T X.K fInt) := callR_imp call_int1 fun xs H Q q => by
  obtain ⟨dk, HS, ds, dz, w, r, e, k⟩ := q
  unfold fInt at e
  split at e
  case h_1 i =>
    cases e
    obtain ⟨v, rfl, rr⟩ := rps1 r
    exact .inl ⟨i, by rw [rr.int], k _ HS H (Stp.refl w) (.int _)⟩
  case h_2 i =>
    cases e
    obtain ⟨v, rfl, rr⟩ := rps1 r
    exact .inr ⟨i, by rw [rr.bool], k _ HS H (Stp.refl w) (.int _)⟩
  case h_3 => cases e
def fTuple : List D → Option D
  | [.list ds] => some (.tuple ds)
  | [.tuple ds] => some (.tuple ds)
  | _ => none
theorem c_tuple : CallR X (.type "tuple") (rC T X.K fTuple) := callR_imp call_tuple_of fun xs H Q q => by
  obtain ⟨dk, HS, ds, dz, w, r, e, k⟩ := q
  unfold fTuple at e
  split at e
  case h_1 l =>
    cases e
    obtain ⟨v, rfl, rr⟩ := rps1 r
    obtain ⟨a, vs, rfl, h1, q1⟩ := rr.lst w
    refine ⟨a, vs, rfl, .inl ⟨SqL.of h1, fun b hb => ?_⟩⟩
    obtain ⟨s2, rv⟩ := new_tup w hb q1
    exact k _ _ _ s2 rv
  case h_2 l =>
    cases e
    obtain ⟨v, rfl, rr⟩ := rps1 r
    obtain ⟨a, vs, rfl, h0, h1, q1⟩ := rr.tup w
    exact ⟨a, vs, rfl, .inr ⟨h1, k _ HS H (Stp.refl w) (.tup h0 q1)⟩⟩
  case h_3 => cases e
def fList : List D → Option D
  | [.list ds] => some (.list ds)
  | [.tuple ds] => some (.list ds)
  | _ => none
theorem c_list : CallR X (.type "list") (rC T X.K fList) := callR_imp call_list_of fun xs H Q q => by
  obtain ⟨dk, HS, ds, dz, w, r, e, k⟩ := q
  unfold fList at e
  split at e
  case h_1 l =>
    cases e
    obtain ⟨v, rfl, rr⟩ := rps1 r
    obtain ⟨a, vs, rfl, h1, q1⟩ := rr.lst w
    refine ⟨a, vs, rfl, .inl (SqL.of h1), fun b hb => ?_⟩
    obtain ⟨s2, rv⟩ := new_lst w hb q1
    exact k _ _ _ s2 rv
  case h_2 l =>
    cases e
    obtain ⟨v, rfl, rr⟩ := rps1 r
    obtain ⟨a, vs, rfl, h0, h1, q1⟩ := rr.tup w
    refine ⟨a, vs, rfl, .inr h1, fun b hb => ?_⟩
    obtain ⟨s2, rv⟩ := new_lst w hb q1
    exact k _ _ _ s2 rv
  case h_3 => cases e
/-- the greatest, the least of some ints -/
def maxI : List Int → Option Int
  | [] => none
  | x :: r => some (r.foldl (fun a b => if b > a then b else a) x)
def minI : List Int → Option Int
  | [] => none
  | x :: r => some (r.foldl (fun a b => if b < a then b else a) x)
theorem foldMax (r : List Int) : ∀ x : Int, (r.foldl (fun a b => if b > a then b else a) x = x ∨ r.foldl (fun a b => if b > a then b else a) x ∈ r) ∧ x ≤ r.foldl (fun a b => if b > a then b else a) x ∧ ∀ y ∈ r, y ≤ r.foldl (fun a b => if b > a then b else a) x := by
  induction r with
  | nil => exact fun x => ⟨.inl rfl, Int.le_refl _, fun _ h => nomatch h⟩
  | cons z r ih =>
    intro x
    rw [List.foldl_cons]
    obtain ⟨h1, h2, h3⟩ := ih (if z > x then z else x)
    refine ⟨?_, ?_, fun y hy => ?_⟩
    · rcases h1 with h1 | h1
      · by_cases c : z > x
        · rw [if_pos c] at h1 ⊢; exact .inr (by rw [h1]; exact List.mem_cons_self)
        · rw [if_neg c] at h1 ⊢; exact .inl h1
      · exact .inr (List.mem_cons_of_mem _ h1)
    · refine Int.le_trans ?_ h2
      split <;> omega
    · rcases List.mem_cons.mp hy with rfl | hy
      · refine Int.le_trans ?_ h2
        split <;> omega
      · exact h3 y hy
theorem foldMin (r : List Int) : ∀ x : Int, (r.foldl (fun a b => if b < a then b else a) x = x ∨ r.foldl (fun a b => if b < a then b else a) x ∈ r) ∧ r.foldl (fun a b => if b < a then b else a) x ≤ x ∧ ∀ y ∈ r, r.foldl (fun a b => if b < a then b else a) x ≤ y := by
  induction r with
  | nil => exact fun x => ⟨.inl rfl, Int.le_refl _, fun _ h => nomatch h⟩
  | cons z r ih =>
    intro x
    rw [List.foldl_cons]
    obtain ⟨h1, h2, h3⟩ := ih (if z < x then z else x)
    refine ⟨?_, ?_, fun y hy => ?_⟩
    · rcases h1 with h1 | h1
      · by_cases c : z < x
        · rw [if_pos c] at h1 ⊢; exact .inr (by rw [h1]; exact List.mem_cons_self)
        · rw [if_neg c] at h1 ⊢; exact .inl h1
      · exact .inr (List.mem_cons_of_mem _ h1)
    · refine Int.le_trans h2 ?_
      split <;> omega
    · rcases List.mem_cons.mp hy with rfl | hy
      · refine Int.le_trans h2 ?_
        split <;> omega
      · exact h3 y hy
theorem maxI_spec {ns : List Int} {m : Int} (h : maxI ns = some m) : m ∈ ns ∧ ∀ y ∈ ns, y ≤ m := by
  cases ns with
  | nil => cases h
  | cons x r =>
    have h' := (Option.some.inj h).symm
    subst h'
    obtain ⟨h1, h2, h3⟩ := foldMax r x
    refine ⟨?_, fun y hy => ?_⟩
    · rcases h1 with h1 | h1
      · rw [h1]; exact List.mem_cons_self
      · exact List.mem_cons_of_mem _ h1
    · rcases List.mem_cons.mp hy with rfl | hy
      · exact h2
      · exact h3 y hy
theorem minI_spec {ns : List Int} {m : Int} (h : minI ns = some m) : m ∈ ns ∧ ∀ y ∈ ns, m ≤ y := by
  cases ns with
  | nil => cases h
  | cons x r =>
    have h' := (Option.some.inj h).symm
    subst h'
    obtain ⟨h1, h2, h3⟩ := foldMin r x
    refine ⟨?_, fun y hy => ?_⟩
    · rcases h1 with h1 | h1
      · rw [h1]; exact List.mem_cons_self
      · exact List.mem_cons_of_mem _ h1
    · rcases List.mem_cons.mp hy with rfl | hy
      · exact h2
      · exact h3 y hy
def fMax : List D → Option D
  | [.int i, .int j] => some (.int (if j > i then j else i))
  | [.list ds] => (intsOf ds).bind fun ns => (maxI ns).map PyData.int
  | _ => none
def fMin : List D → Option D
  | [.int i, .int j] => some (.int (if j < i then j else i))
  | [.list ds] => (intsOf ds).bind fun ns => (minI ns).map PyData.int
  | _ => none
theorem c_max (hc : X.calm = true) : CallR X (.builtin "max") (rC T X.K fMax) := callR_imp (CallR.or (call_max2 hc) (cr_max hc)) fun xs H Q q => by
  obtain ⟨dk, HS, ds, dz, w, r, e, k⟩ := q
  unfold fMax at e
  split at e
  case h_1 i j =>
    cases e
    obtain ⟨v, u, rfl, r1, r2⟩ := rps2 r
    exact .inl ⟨i, j, by rw [r1.int, r2.int], k _ HS H (Stp.refl w) (.int _)⟩
  case h_2 l =>
    obtain ⟨v, rfl, rr⟩ := rps1 r
    cases ei : intsOf l with
    | none => rw [ei] at e; cases e
    | some ns =>
      rw [ei] at e
      cases em : maxI ns with
      | none => simp only [Option.bind_some, em, Option.map_none] at e; cases e
      | some m =>
        simp only [Option.bind_some, em, Option.map_some] at e
        cases e
        have el := intsOf_eq ei
        subst el
        obtain ⟨a, vs, rfl, h1, q1⟩ := rr.lst w
        have z := q1.intsV
        subst z
        obtain ⟨m1, m2⟩ := maxI_spec em
        refine .inr ⟨a, ns, rfl, SqL.of h1, List.length_pos_of_mem m1, fun m' h2 h3 => ?_⟩
        have : m' = m := Int.le_antisymm (m2 _ h2) (h3 _ m1)
        subst this
        exact k _ HS H (Stp.refl w) (.int _)
  case h_3 => cases e
theorem c_min (hc : X.calm = true) : CallR X (.builtin "min") (rC T X.K fMin) := callR_imp (CallR.or (call_min2 hc) (cr_min hc)) fun xs H Q q => by
  obtain ⟨dk, HS, ds, dz, w, r, e, k⟩ := q
  unfold fMin at e
  split at e
  case h_1 i j =>
    cases e
    obtain ⟨v, u, rfl, r1, r2⟩ := rps2 r
    exact .inl ⟨i, j, by rw [r1.int, r2.int], k _ HS H (Stp.refl w) (.int _)⟩
  case h_2 l =>
    obtain ⟨v, rfl, rr⟩ := rps1 r
    cases ei : intsOf l with
    | none => rw [ei] at e; cases e
    | some ns =>
      rw [ei] at e
      cases em : minI ns with
      | none => simp only [Option.bind_some, em, Option.map_none] at e; cases e
      | some m =>
        simp only [Option.bind_some, em, Option.map_some] at e
        cases e
        have el := intsOf_eq ei
        subst el
        obtain ⟨a, vs, rfl, h1, q1⟩ := rr.lst w
        have z := q1.intsV
        subst z
        obtain ⟨m1, m2⟩ := minI_spec em
        refine .inr ⟨a, ns, rfl, SqL.of h1, List.length_pos_of_mem m1, fun m' h2 h3 => ?_⟩
        have : m' = m := Int.le_antisymm (h3 _ m1) (m2 _ h2)
        subst this
        exact k _ HS H (Stp.refl w) (.int _)
  case h_3 => cases e
def fSum : List D → Option D
  | [.list ds] => (intsOf ds).map fun ns => .int ns.sum
  | _ => none
theorem c_sum (hc : X.calm = true) : CallR X (.builtin "sum") (rC T X.K fSum) := callR_imp (cr_sum hc) fun xs H Q q => by
  obtain ⟨dk, HS, ds, dz, w, r, e, k⟩ := q
  unfold fSum at e
  split at e
  case h_1 l =>
    obtain ⟨v, rfl, rr⟩ := rps1 r
    cases ei : intsOf l with
    | none => rw [ei] at e; cases e
    | some ns =>
      rw [ei] at e
      cases e
      have el := intsOf_eq ei
      subst el
      obtain ⟨a, vs, rfl, h1, q1⟩ := rr.lst w
      have z := q1.intsV
      subst z
      exact ⟨a, ns, rfl, SqL.of h1, k _ HS H (Stp.refl w) (.int _)⟩
  case h_2 => cases e
def boolsOf : List D → Option (List Bool)
  | [] => some []
  | .bool i :: r => (boolsOf r).map (i :: ·)
  | _ => none
theorem boolsOf_eq : ∀ {ds : List D} {ns : List Bool}, boolsOf ds = some ns → ds = ns.map PyData.bool
  | [], ns, h => by cases h; rfl
  | .bool i :: r, ns, h => by
    have h' : (boolsOf r).map (i :: ·) = some ns := h
    cases e : boolsOf r with
    | none => rw [e] at h'; cases h'
    | some ms =>
      rw [e] at h'
      have h2 : i :: ms = ns := Option.some.inj h'
      subst h2
      rw [boolsOf_eq e]
      rfl
theorem boolsOf_map : ∀ ns : List Bool, boolsOf (ns.map PyData.bool) = some ns
  | [] => rfl
  | n :: r => by
    show (boolsOf (r.map PyData.bool)).map (n :: ·) = _
    rw [boolsOf_map r]
    rfl
theorem Rvs.boolsV {K : PySem.W.Frag} {H : Hp} : ∀ {vs : List V} {ns : List Bool}, Rvs K H vs (ns.map PyData.bool) → vs = ns.map V.bl
  | _, [], .nil => rfl
  | _, _ :: _, .cons (.bl _) t => congrArg (_ :: ·) (Rvs.boolsV t)
def fAll : List D → Option D
  | [.list ds] => (boolsOf ds).map fun ns => .bool (ns.all id)
  | _ => none
def fAny : List D → Option D
  | [.list ds] => (boolsOf ds).map fun ns => .bool (ns.any id)
  | _ => none
theorem c_all (hc : X.calm = true) : CallR X (.builtin "all") (rC T X.K fAll) := callR_imp (cr_all hc) fun xs H Q q => by
  obtain ⟨dk, HS, ds, dz, w, r, e, k⟩ := q
  unfold fAll at e
  split at e
  case h_1 l =>
    obtain ⟨v, rfl, rr⟩ := rps1 r
    cases ei : boolsOf l with
    | none => rw [ei] at e; cases e
    | some ns =>
      rw [ei] at e
      cases e
      have el := boolsOf_eq ei
      subst el
      obtain ⟨a, vs, rfl, h1, q1⟩ := rr.lst w
      have z := q1.boolsV
      subst z
      exact ⟨a, ns, rfl, SqL.of h1, k _ HS H (Stp.refl w) (.bl _)⟩
  case h_2 => cases e
theorem c_any (hc : X.calm = true) : CallR X (.builtin "any") (rC T X.K fAny) := callR_imp (cr_any hc) fun xs H Q q => by
  obtain ⟨dk, HS, ds, dz, w, r, e, k⟩ := q
  unfold fAny at e
  split at e
  case h_1 l =>
    obtain ⟨v, rfl, rr⟩ := rps1 r
    cases ei : boolsOf l with
    | none => rw [ei] at e; cases e
    | some ns =>
      rw [ei] at e
      cases e
      have el := boolsOf_eq ei
      subst el
      obtain ⟨a, vs, rfl, h1, q1⟩ := rr.lst w
      have z := q1.boolsV
      subst z
      exact ⟨a, ns, rfl, SqL.of h1, k _ HS H (Stp.refl w) (.bl _)⟩
  case h_2 => cases e
end
end DL

namespace DL
open PySem PySem.Spec PyProof.Rows L2

/-! ### defs: as FnOk, where nothing that guards against itself runs around (repr wants that) -/
structure FnG (P : Program) (w : World) (K : PySem.W.Frag) (mg : Str → Option Value) (base : Heap) (CX : CXT) (k : Nat) (f : Addr) (fd : FuncData) (ps : List Str) (sp : Sp) : Prop where
  len : ∀ vs H Q E, sp vs H Q E → vs.length = ps.length
  run : ∀ (A : Around) (outer : List Env) (s : Shared) (H : Hp) (args : Args) (us : List Value) (vs : List V) (Q : VK) (E : XK), Room k A → A.guards = some [] → Env0 P w K mg base A outer s H →
    BindsTo s fd args (ps.zip us) → Vals vs us → sp vs H Q E → codeAny (model P w) A (.call (.ref f) args) (CR CX outer P w H s Q E) s
theorem gn_of {CX : CXT} {P : Program} {w : World} {K : PySem.W.Frag} {mg : Str → Option Value} {base : Heap} {k : Nat} {f : Addr} {x qual : Str} {st : Stmt} {fd : FuncData} {N ps : List Str} {sp : Sp} (F : Fun K x qual st f fd) (S : FnScope N ps (defScope st))
    (len : ∀ vs H Q E, sp vs H Q E → vs.length = ps.length)
    (hbody : ∀ (cdv : Value) (A : Around) (outer : List Env) (s : Shared) (H : Hp) (vs : List V) (Q : VK) (E : XK), Room k (A.deeper (envOfC qual (defScope st) s.heap.objs.size f cdv)) → A.guards = some [] → sp vs H Q E →
      ∃ t, PSs (cxOf CX P w K mg base N qual (defScope st) f cdv A outer s H E) (defBody st) t ∧ t { nx := fun _ H' => Q .non H', rt := Q } (L2.start N vs) H) : FnG P w K mg base CX (k + 1) f fd ps sp := by
  obtain ⟨oc, od, kV, doc, pm, an, cdv, ct, osl, rfl, lk, hcd⟩ := F.ex
  refine ⟨len, fun A outer s H args us vs Q E hr hgd e0 hb r hsp => ?_⟩
  have held : ∀ b o, base.get? b = some o → s.heap.get? b = some o := fun b o e => (e0.bs b o e).1
  have kx : K.In s.heap := e0.mod.kin.keeps held
  have unl : s.heap.NoLimit := e0.mod.nolimit.keeps held
  refine codeAny_call_function hr.depth (kx _ _ lk) rfl S.co S.gen rfl (PySem.W.codeRec_of kx hcd) (hb _ _ _ _ ?_)
  have kinds : ∀ y ∈ ps.zip us, (defScope st).names.lookup y.1 = some .local ∨ ((defScope st).names.lookup y.1 = some .cell ∧ ((cellsFrom (s.heap.objs.size + 1) (defScope st).names []).lookup y.1).isSome = true) := by
    rintro ⟨n, v⟩ hy
    exact (S.par n (List.of_mem_zip hy).1).imp id fun q => ⟨q, PySem.W.cellsFrom_some _ _ _ (.inl q)⟩
  refine wpAny_newFunctionEnv_cells S.kind kinds ?_
  rintro env rfl s1 x
  refine ⟨unl.keeps x.toInCall.keep, codeAny_func ?_⟩
  obtain ⟨t, ht, hq⟩ := hbody cdv A outer s H vs Q E (hr.deeper _) hgd hsp
  have J := inv_start (CX := CX) (P := P) (w := w) (K := K) (mg := mg) (base := base) (E := E) (qual := qual) (f := f) (cd := cdv) S hr.hd e0 (len _ _ _ _ hsp) r x
  refine wpAny_mono (ht.run [] s1 _ H _ J hq) ?_ fun e s' hs => hs
  intro fl s' hs
  cases fl with
  | ret u =>
    obtain ⟨v, σ', H', L, rv, q⟩ := hs
    exact ⟨v, H', L.os, L.bare, L.base, L.hok, rv, q⟩
  | next =>
    obtain ⟨σ', H', L, q⟩ := hs
    exact ⟨V.non, H', L.os, L.bare, L.base, L.hok, rfl, q⟩
  | brk => exact hs.elim fun _ z => z.elim fun _ z => z.2.elim
  | cont => exact hs.elim fun _ z => z.elim fun _ z => z.2.elim
section
variable {X : Cx} {CX : CXT} {k : Nat} {f : Addr} {fd : FuncData} {ps : List Str} {sp : Sp} {E : XK} {pins : List (Addr × Obj)} {σ : L2.St} {H : Hp} {s : Shared} {Q : VK}
/-- the callee runs, its arguments bound somehow -/
theorem run_g {args : Args} {us : List Value} {vs : List V} (F : FnG X.prog X.w X.K X.mg X.base CX k f fd ps sp) (hr : Room k X.A) (hgd : X.A.guards = some []) (hx : Passes CX X E) (I : Inv X pins σ H s)
    (hb : us.length = ps.length → BindsTo s fd args (ps.zip us)) (r : Vals vs us) (h : sp vs H Q E) : wpAny (model X.prog X.w) X.A (call (.ref f) args.pos args.kw) (EP X pins σ Q) X.xe s := by
  have hl : us.length = ps.length := r.length.symm.trans (F.len _ _ _ _ h)
  refine wpAny_call (codeAny_mono (F.run X.A X.stack s H args us vs Q E hr hgd I.env0 (hb hl) r h) ?_)
  intro res s' hq
  match res, hq with
  | .error e, hq => exact hx pins σ H s e s' I hq
  | .ok (.ret u), hq => exact I.after hq
end

abbrev SpD := List Ar → (D → Prop) → Prop
def lSp (T : DKd) (K : PySem.W.Frag) (spd : SpD) : Sp := fun vs H Q _ => ∃ as dk HS P, Wd T dk HS H ∧ ArsR K dk HS vs as ∧ spd as P ∧ ∀ d v HS1 H1, P d → Stp T dk HS H HS1 H1 → Rv K HS1 v d → Q v H1
def arSlot : Ar → Slot
  | .d x => .val x
  | .dk => .deck
def startD (n : Nat) (as : List Ar) : Envd := as.map arSlot ++ List.replicate (n - as.length) .nil
theorem ArsR.len {K : PySem.W.Frag} {dk : DkA} {HS : Hp} : ∀ {vs : List V} {as : List Ar}, ArsR K dk HS vs as → vs.length = as.length
  | _, _, .nil => rfl
  | _, _, .cons _ t => congrArg (· + 1) (ArsR.len t)
theorem ArsR.at {K : PySem.W.Frag} {dk : DkA} {HS H : Hp} : ∀ {vs : List V} {as : List Ar} {i : Nat} {a : Ar}, ArsR K dk HS vs as → as[i]? = some a → ∃ v, vs[i]? = some v ∧ SlotR K dk HS H (arSlot a) (some v)
  | _, _, _, _, .nil, e => by simp at e
  | _, _, 0, _, .cons (a := a) h _, e => by
    have e' := Option.some.inj (show some _ = some _ from e)
    subst e'
    refine ⟨_, rfl, ?_⟩
    cases a with
    | d x => exact ⟨_, rfl, h⟩
    | dk =>
      obtain ⟨p, g, e1, e2⟩ := h
      exact ⟨p, g, e1, congrArg some e2⟩
  | _, _, i + 1, a, .cons _ t, e => by
    obtain ⟨v, h1, h2⟩ := ArsR.at (i := i) (a := a) (H := H) t (by simpa using e)
    exact ⟨v, by simpa using h1, h2⟩
theorem env_start {T : DKd} {K : PySem.W.Frag} {N : List Str} {vs : List V} {as : List Ar} {dk : DkA} {HS H : Hp} (w : Wd T dk HS H) (r : ArsR K dk HS vs as) : EnvR T K ⟨H, HS, dk⟩ (startD N.length as) dk HS H (L2.start N vs) := by
  have no : ∀ (i : Nat) (ds : List D), (startD N.length as)[i]? ≠ some (.own ds) := fun i ds h => by
    unfold startD at h
    by_cases hi : i < (as.map arSlot).length
    · rw [List.getElem?_append_left hi, List.getElem?_map] at h
      cases e : as[i]? with
      | none => rw [e] at h; cases h
      | some a => rw [e] at h; cases a <;> cases h
    · rw [List.getElem?_append_right (by omega), List.getElem?_replicate] at h
      split at h <;> cases h
  have nod : ∀ (i : Nat) (t : Bool) (kvs : List (D × D)), (startD N.length as)[i]? ≠ some (.dct t kvs) := fun i t kvs h => by
    unfold startD at h
    by_cases hi : i < (as.map arSlot).length
    · rw [List.getElem?_append_left hi, List.getElem?_map] at h
      cases e : as[i]? with
      | none => rw [e] at h; cases h
      | some a => rw [e] at h; cases a <;> cases h
    · rw [List.getElem?_append_right (by omega), List.getElem?_replicate] at h
      split at h <;> cases h
  refine ⟨⟨w, Same.refl _, fun b o h _ => h, fun b h h' => absurd h h', .inr rfl, fun e b m => ?_⟩, ?_, fun i s e => ?_, fun i j ds es p e _ _ _ => absurd e (no i ds), fun i ds p e _ => absurd e (no i ds), D2.none nod⟩
  · have e' : dk = none := e
    rw [e'] at m
    exact m.elim
  · unfold L2.start startD
    rw [List.length_append, List.length_append, List.length_map, List.length_map, List.length_replicate, List.length_replicate, r.len]
  · unfold startD at e
    unfold L2.start
    by_cases hi : i < as.length
    · rw [List.getElem?_append_left (by simpa using hi), List.getElem?_map] at e
      cases ea : as[i]? with
      | none => rw [ea] at e; cases e
      | some a =>
        rw [ea] at e
        have e' : arSlot a = s := Option.some.inj e
        subst e'
        obtain ⟨v, h1, h2⟩ := r.at (H := H) ea
        refine ⟨some v, ?_, h2⟩
        rw [List.getElem?_append_left (by rw [List.length_map, r.len]; exact hi), List.getElem?_map, h1]
        rfl
    · rw [List.getElem?_append_right (by simpa using hi), List.getElem?_replicate] at e
      split at e
      · rename_i hc
        cases e
        refine ⟨none, ?_, trivial⟩
        rw [List.getElem?_append_right (by rw [List.length_map, r.len]; omega), List.getElem?_replicate, if_pos (by rw [List.length_map, r.len]; rw [List.length_map] at hc; exact hc)]
      · cases e
/-- THE RULE for a def whose arguments and answer are data -/
theorem gd_of {T : DKd} {P : Program} {w : World} {K : PySem.W.Frag} {mg : Str → Option Value} {base : Heap} {k : Nat} {f : Addr} {x qual : Str} {st : Stmt} {fd : FuncData} {N ps : List Str} {spd : SpD} (F : Fun K x qual st f fd) (S : FnScope N ps (defScope st))
    (len : ∀ as P, spd as P → as.length = ps.length)
    (hbody : ∀ (cdv : Value) (A : Around) (outer : List Env) (s : Shared) (H : Hp) (E : XK), Room k (A.deeper (envOfC qual (defScope st) s.heap.objs.size f cdv)) → (A.deeper (envOfC qual (defScope st) s.heap.objs.size f cdv)).guards = some [] →
      ∃ t, DSs T (cxOf CX0 P w K mg base N qual (defScope st) f cdv A outer s H E).nox (defBody st) t ∧ ∀ as P, spd as P → t { nx := fun _ => P .none, rt := P } (startD N.length as)) : FnG P w K mg base CX0 (k + 1) f fd ps (lSp T K spd) := by
  refine gn_of F S (fun vs H Q E ⟨as, dk, HS, P, w, r, q, _⟩ => r.len.trans (len as P q)) fun cdv A outer s H vs Q E hr hgd ⟨as, dk, HS, P, wd, r, q, k'⟩ => ?_
  obtain ⟨t, ht, hq⟩ := hbody cdv A outer s H E hr hgd
  refine ⟨_, ht.ps.nox, ⟨H, HS, dk⟩, _, dk, HS, { nx := fun _ => P .none, rt := P }, env_start wd r, hq as P q, fun ρ1 dk1 HS1 H1 σ1 h E1 => ?_, fun d v dk1 HS1 H1 h F1 rv => ?_, fun _ _ _ _ _ h => h.elim, fun _ _ _ _ _ h => h.elim⟩
  · exact k' _ _ HS1 H1 h (fin_stp wd E1.fin) .non
  · exact k' _ _ HS1 H1 h (fin_stp wd F1) rv
where
  fin_stp {T : DKd} {dk dk1 : DkA} {HS H HS1 H1 : Hp} (w : Wd T dk HS H) (F : Fin T ⟨H, HS, dk⟩ dk1 HS1 H1) : Stp T dk HS H HS1 H1 :=
    ⟨F.sh, F.fr, F.new, ⟨F.wd.sub, fun b m => by
      rcases F.dks with e | e
      · have e' : dk = none := e
        rw [e'] at m; exact m.elim
      · have e' : dk1 = dk := e
        exact F.wd.off b (by rw [e']; exact m), fun p g e => by
      rcases F.dks with e0 | e0
      · have e' : dk = none := e0
        rw [e'] at e; cases e
      · have e' : dk1 = dk := e0
        exact F.wd.dkc p g (e'.trans e)⟩⟩

/-! ### calls -/
def xCall (spd : SpD) (t : DT (List Ar)) : DT D := fun ρ P => t ρ fun as => spd as P
def pickL {α : Type} (pm : List Nat) (l : List α) : List α := pm.filterMap fun i => l[i]?
def xCallK (spd : SpD) (pm : List Nat) (t tk : DT (List Ar)) : DT D := fun ρ P => t ρ fun as => tk ρ fun bs => spd (pickL pm (as ++ bs)) P
/-- keywords' values -/
structure DK (T : DKd) (X : Cx) (kws : List Keyword) (t : DT (List Ar)) : Prop where
  pk : PK X kws (lA T X.K kws.length t)
/-- how a call with n positional arguments and the keywords ks binds: pm tells of each parameter which of the values, in the order of the call, it is -/
def KB (fd : FuncData) (ps ks : List Str) (n : Nat) (pm : List Nat) : Prop :=
  ∀ (s : Shared) (us ws : List Value), us.length = n → ws.length = ks.length → BindsTo s fd ⟨us, ks.zip ws⟩ (ps.zip (pickL pm (us ++ ws)))
theorem kb_of {K : PySem.W.Frag} {x qual : Str} {st : Stmt} {f : Addr} {fd : FuncData} {ps ks : List Str} {n : Nat} {pm : List Nat} (F : Fun K x qual st f fd)
    (h : ∀ (kV doc mo : Value) (an : Option Addr) (cdv ct : Value) (us ws : List Value), us.length = n → ws.length = ks.length → bindArgs (PySem.W.fnOf x qual (defArgs st) (defBody st) (defScope st) .none kV doc mo an cdv ct) ⟨us, ks.zip ws⟩ = pure (ps.zip (pickL pm (us ++ ws)))) :
    KB fd ps ks n pm := by
  obtain ⟨oc, od, kV, doc, mo, an, cdv, ct, osl, rfl, lk, hcd⟩ := F.ex
  exact fun s us ws h1 h2 => .of_eq (h kV doc mo an cdv ct us ws h1 h2)
theorem vals_pick {vs : List V} {us : List Value} (r : Vals vs us) : ∀ pm : List Nat, Vals (pickL pm vs) (pickL pm us)
  | [] => .nil
  | i :: pm => by
    have ih := vals_pick r pm
    unfold pickL at ih ⊢
    rw [List.filterMap_cons, List.filterMap_cons]
    cases e : vs[i]? with
    | none => rw [r.none_of e]; exact ih
    | some v =>
      obtain ⟨u, h1, h2⟩ := r.get e
      rw [h1]
      exact .cons h2 ih
theorem ArsR.none_of {K : PySem.W.Frag} {dk : DkA} {HS : Hp} {vs : List V} {as : List Ar} {i : Nat} (r : ArsR K dk HS vs as) (e : as[i]? = none) : vs[i]? = none := by
  have h := r.len
  exact List.getElem?_eq_none (by have := List.getElem?_eq_none_iff.mp e; omega)
theorem ArsR.get {K : PySem.W.Frag} {dk : DkA} {HS : Hp} : ∀ {vs : List V} {as : List Ar} {i : Nat} {a : Ar}, ArsR K dk HS vs as → as[i]? = some a → ∃ v, vs[i]? = some v ∧ ArR K dk HS v a
  | _, _, _, _, .nil, e => by simp at e
  | _, _, 0, _, .cons h _, e => by
    have e' := Option.some.inj (show some _ = some _ from e)
    subst e'
    exact ⟨_, rfl, h⟩
  | _, _, i + 1, a, .cons _ t, e => by
    obtain ⟨v, h1, h2⟩ := ArsR.get (i := i) (a := a) t (by simpa using e)
    exact ⟨v, by simpa using h1, h2⟩
theorem ArsR.pick {K : PySem.W.Frag} {dk : DkA} {HS : Hp} {vs : List V} {as : List Ar} (r : ArsR K dk HS vs as) : ∀ pm : List Nat, ArsR K dk HS (pickL pm vs) (pickL pm as)
  | [] => .nil
  | i :: pm => by
    have ih := ArsR.pick r pm
    unfold pickL at ih ⊢
    rw [List.filterMap_cons, List.filterMap_cons]
    cases e : as[i]? with
    | none => rw [r.none_of e]; exact ih
    | some a =>
      obtain ⟨v, h1, h2⟩ := r.get e
      rw [h1]
      exact .cons h2 ih
theorem ArsR.app {K : PySem.W.Frag} {dk : DkA} {HS : Hp} : ∀ {vs us : List V} {as bs : List Ar}, ArsR K dk HS vs as → ArsR K dk HS us bs → ArsR K dk HS (vs ++ us) (as ++ bs)
  | _, _, _, _, .nil, q => q
  | _, _, _, _, .cons h t, q => .cons h (ArsR.app t q)
section
variable {T : DKd} {X : Cx} {e : Expr} {es : List Expr} {ta : DT D} {t tk : DT (List Ar)} {pos p : Pos} {x : Str} {k : Nat} {f : Addr} {fd : FuncData} {ps ks : List Str} {spd : SpD} {kws : List Keyword} {nm : Option Str} {kpos : Pos} {pm : List Nat}
theorem d_call (F : FnG X.prog X.w X.K X.mg X.base CX0 k f fd ps (lSp T X.K spd)) (hr : Room k X.A) (hgd : X.A.guards = some []) (hg : Gl X x) (hm : X.mg x = some (.ref f)) (hk : PySem.W.keepIn X.K (.ref f) = true) (hb : Binds X.K fd ps [])
    (ha : DA T X (e :: es) t) (hdb : (x == ("__debug__" : Str)) = false := by decide) (he : starEach (e :: es) X.env = (false, eval e X.env) :: starEach es X.env := by rfl) (hpl : (backTo pos (starEach es X.env)).any (·.1) = false := by rfl) :
    DE T X (.Call (.Name x p) (e :: es) [] pos) (xCall spd t) := by
  refine ⟨⟨fun pins s σ H Q I h => ?_⟩⟩
  obtain ⟨en, ρ, dk, HS, P, E, q, k'⟩ := h
  refine wpAny_Call_Name_kw (ld_glob I hg hm ?_ hdb)
  refine PySem.W.callWith_K (h₀ := X.base) I.ok.mod.kin hk (thn (ha.pa.run pos pins s σ H (fun vs H1 => lSp T X.K spd vs H1 Q E0) I ⟨en, ρ, dk, HS, _, E, q, fun as vs HS1 H1 _ p1 s1 r1 => ⟨as, dk, HS1, P, s1.wd, r1, p1, fun d v HS2 H2 pd s2 rv => k' d v HS2 H2 pd (s1.trans s2) rv⟩⟩) fun us s1 ⟨vs, H1, I1, r, q1⟩ => ⟨I1.kIn, ?_⟩) he hpl
  exact run_g (args := ⟨us, []⟩) F hr hgd pass0 I1 (fun hl => by have z := hb s1 us I1.kIn (by rw [List.append_nil]; exact hl); rw [List.append_nil] at z; exact z) r q1
theorem d_call0 (F : FnG X.prog X.w X.K X.mg X.base CX0 k f fd ps (lSp T X.K spd)) (hr : Room k X.A) (hgd : X.A.guards = some []) (hg : Gl X x) (hm : X.mg x = some (.ref f)) (hk : PySem.W.keepIn X.K (.ref f) = true) (hb : Binds X.K fd ps [])
    (hdb : (x == ("__debug__" : Str)) = false := by decide) : DE T X (.Call (.Name x p) [] [] pos) (xCall spd xNil) := by
  refine ⟨⟨fun pins s σ H Q I h => ?_⟩⟩
  obtain ⟨en, ρ, dk, HS, P, E, q, k'⟩ := h
  refine wpAny_Call_Name_kw (ld_glob I hg hm ?_ hdb)
  refine PySem.W.callWith_K0 I.kIn hk ?_
  exact run_g (args := ⟨[], []⟩) (us := []) (vs := []) F hr hgd pass0 I (fun hl => hb s [] I.kIn hl) .nil (show lSp T X.K spd [] H Q E0 from ⟨[], dk, HS, P, E.wd, .nil, q, fun d v HS2 H2 pd s2 rv => k' d v HS2 H2 pd s2 rv⟩)
theorem dk_nil : DK T X [] xNil := ⟨PK.imp pk_nil fun σ H Q ⟨en, ρ, dk, HS, P, E, q, k⟩ => k [] [] HS H rfl q (Stp.refl E.wd) .nil⟩
theorem dk_cons (ha : DE T X e ta) (hr : DK T X kws tk) : DK T X (⟨nm, e, kpos⟩ :: kws) (xCons (xArD ta) tk) :=
  ⟨PK.imp (pk_cons ha.pe hr.pk) fun σ H Q h => by
    obtain ⟨en, ρ, dk, HS, P, E, q, k⟩ := h
    refine ⟨en, ρ, dk, HS, _, E, q, fun d v HS1 H1 p s r => ⟨en, ρ, dk, HS1, _, E.stp s, p, fun ds vs HS2 H2 l2 p2 s2 r2 => ?_⟩⟩
    exact k (.d d :: ds) (v :: vs) HS2 H2 (congrArg (· + 1) l2) p2 (s.trans s2) (.cons (a := .d d) (dp_same s2.sh _ _ r) r2)⟩
/-- f(e, .., k = v, ..) -/
theorem d_callK (F : FnG X.prog X.w X.K X.mg X.base CX0 k f fd ps (lSp T X.K spd)) (hr : Room k X.A) (hgd : X.A.guards = some []) (hg : Gl X x) (hm : X.mg x = some (.ref f)) (hk : PySem.W.keepIn X.K (.ref f) = true) (hb : KB fd ps ks (es.length + 1) pm)
    (ha : DA T X (e :: es) t) (hkw : DK T X kws tk) (hall : (backToKw pos (keywordEach kws X.env)).all (·.1.isSome) = true := by rfl) (hks : (backToKw pos (keywordEach kws X.env)).filterMap (·.1) = ks := by rfl)
    (hlk : kws.length = ks.length := by rfl)
    (hdb : (x == ("__debug__" : Str)) = false := by decide) (he : starEach (e :: es) X.env = (false, eval e X.env) :: starEach es X.env := by rfl)
    (hpl : ((backTo pos (starEach (e :: es) X.env)).any (·.1) || (backToKw pos (keywordEach kws X.env)).any (·.1.isNone)) = false := by rfl) :
    DE T X (.Call (.Name x p) (e :: es) kws pos) (xCallK spd pm t tk) := by
  refine ⟨⟨fun pins s σ H Q I h => ?_⟩⟩
  obtain ⟨en, ρ, dk, HS, P, E, q, k'⟩ := h
  refine wpAny_Call_Name_kw (ld_glob I hg hm ?_ hdb)
  refine PySem.W.callWith_KW (h₀ := X.base) I.ok.mod.kin hk hall (thn (ha.pa.run pos pins s σ H (fun vs H1 => vs.length = es.length + 1 ∧ lA T X.K kws.length tk σ H1 (fun ws H2 => ws.length = ks.length ∧ lSp T X.K spd (pickL pm (vs ++ ws)) H2 Q E0)) I ?_) fun us s1 ⟨vs, H1, I1, r, q1, q2⟩ => ?_) hpl he
  · refine ⟨en, ρ, dk, HS, _, E, q, fun as vs HS1 H1 p0 p1 s1 r1 => ⟨by rw [r1.len]; exact p0, en, ρ, dk, HS1, _, E.stp s1, p1, fun bs ws HS2 H2 p2 p3 s2 r2 => ⟨by rw [r2.len, p2, hlk], ?_⟩⟩⟩
    exact ⟨_, dk, HS2, P, s2.wd, ((r1.step s2.sh).app r2).pick pm, p3, fun d v HS3 H3 pd s3 rv => k' d v HS3 H3 pd (s1.trans (s2.trans s3)) rv⟩
  · refine thn (hkw.pk.run pos pins s1 σ H1 _ I1 q2) fun ws s2 ⟨zs, H2, I2, rz, l2, q3⟩ => ⟨I2.kIn, ?_⟩
    rw [hks]
    exact run_g (args := ⟨us, ks.zip ws⟩) (us := pickL pm (us ++ ws)) F hr hgd pass0 I2 (fun hl => hb s2 us ws (by rw [← r.length]; exact q1) (by rw [← rz.length]; exact l2)) (vals_pick (r.append rz) pm) q3
/-- f(k = v, ..) -/
theorem d_callK0 (F : FnG X.prog X.w X.K X.mg X.base CX0 k f fd ps (lSp T X.K spd)) (hr : Room k X.A) (hgd : X.A.guards = some []) (hg : Gl X x) (hm : X.mg x = some (.ref f)) (hk : PySem.W.keepIn X.K (.ref f) = true) (hb : KB fd ps ks 0 pm)
    (hkw : DK T X kws tk) (hall : (backToKw pos (keywordEach kws X.env)).all (·.1.isSome) = true := by rfl) (hks : (backToKw pos (keywordEach kws X.env)).filterMap (·.1) = ks := by rfl)
    (hlk : kws.length = ks.length := by rfl)
    (hdb : (x == ("__debug__" : Str)) = false := by decide)
    (hpl : ((backTo pos (starEach [] X.env)).any (·.1) || (backToKw pos (keywordEach kws X.env)).any (·.1.isNone)) = false := by rfl) :
    DE T X (.Call (.Name x p) [] kws pos) (xCallK spd pm xNil tk) := by
  refine ⟨⟨fun pins s σ H Q I h => ?_⟩⟩
  obtain ⟨en, ρ, dk, HS, P, E, q, k'⟩ := h
  refine wpAny_Call_Name_kw (ld_glob I hg hm ?_ hdb)
  refine PySem.W.callWith_KW0 (h₀ := X.base) I.ok.mod.kin hk hall (thn (hkw.pk.run pos pins s σ H (fun ws H2 => ws.length = ks.length ∧ lSp T X.K spd (pickL pm ws) H2 Q E0) I ?_) fun ws s2 ⟨zs, H2, I2, rz, l2, q3⟩ => ⟨I2.kIn, ?_⟩) hpl
  · refine ⟨en, ρ, dk, HS, _, E, q, fun bs ws HS2 H2 p2 p3 s2 r2 => ⟨by rw [r2.len, p2, hlk], ?_⟩⟩
    exact ⟨_, dk, HS2, P, s2.wd, r2.pick pm, p3, fun d v HS3 H3 pd s3 rv => k' d v HS3 H3 pd (s2.trans s3) rv⟩
  · rw [hks]
    exact run_g (args := ⟨[], ks.zip ws⟩) (us := pickL pm ws) F hr hgd pass0 I2 (fun hl => hb s2 [] ws rfl (by rw [← rz.length]; exact l2)) (vals_pick rz pm) q3
end
end DL

namespace DL
open PySem PySem.Spec PyProof.Rows L2

/-! ### how the names' state changes -/
section
variable {T : DKd} {K : PySem.W.Frag} {en : Ent} {ρ : Envd} {dk : DkA} {HS H HS1 H1 : Hp} {σ : L2.St} {i : Nat}
theorem get_set {α : Type} {l : List α} {i j : Nat} {a b : α} (h : (l.set i a)[j]? = some b) : (i = j ∧ b = a) ∨ (i ≠ j ∧ l[j]? = some b) := by
  by_cases e : i = j
  · subst e
    rw [List.getElem?_set_self' ] at h
    cases q : l[i]? with
    | none => rw [q] at h; cases h
    | some z => rw [q] at h; exact .inl ⟨rfl, (Option.some.inj h).symm⟩
  · rw [List.getElem?_set_ne e] at h
    exact .inr ⟨e, h⟩
theorem set_get {α : Type} {l : List α} {i : Nat} {a : α} (h : i < l.length) : (l.set i a)[i]? = some a := by
  rw [List.getElem?_set_self h]
theorem lt_of_get {α : Type} {l : List α} {i : Nat} {a b : α} (h : (l.set i a)[i]? = some b) : i < l.length := by
  by_cases q : i < l.length
  · exact q
  · rw [List.getElem?_eq_none (by rw [List.length_set]; omega)] at h; cases h
theorem EnvR.set (E : EnvR T K en ρ dk HS H σ) {d : D} {v : V} (r : Rv K HS v d) : EnvR T K en (ρ.set i (.val d)) dk HS H (σ.set i (some v)) where
  fin := E.fin
  len := by rw [List.length_set, List.length_set, E.len]
  slots := fun j s e => by
    rcases get_set e with ⟨rfl, rfl⟩ | ⟨ne, e⟩
    · have hl := lt_of_get e
      exact ⟨some v, set_get (by rw [E.len]; exact hl), v, rfl, r⟩
    · obtain ⟨x, h1, h2⟩ := E.slots j s e
      exact ⟨x, by rw [List.getElem?_set_ne ne]; exact h1, h2⟩
  dist := fun j k ds es p e1 e2 e3 e4 => by
    rcases get_set e1 with ⟨_, z⟩ | ⟨n1, e1⟩
    · cases z
    · rcases get_set e2 with ⟨_, z⟩ | ⟨n2, e2⟩
      · cases z
      · rw [List.getElem?_set_ne n1] at e3
        rw [List.getElem?_set_ne n2] at e4
        exact E.dist j k ds es p e1 e2 e3 e4
  fresh := fun j ds p e1 e3 => by
    rcases get_set e1 with ⟨_, z⟩ | ⟨n1, e1⟩
    · cases z
    · rw [List.getElem?_set_ne n1] at e3
      exact E.fresh j ds p e1 e3
  d2 := E.d2.set (fun _ _ z => by cases z) _
/-- a slot forgotten -/
theorem EnvR.forget (E : EnvR T K en ρ dk HS H σ) (x : Option V) : EnvR T K en (ρ.set i .nil) dk HS H (σ.set i x) where
  fin := E.fin
  len := by rw [List.length_set, List.length_set, E.len]
  slots := fun j s e => by
    rcases get_set e with ⟨rfl, rfl⟩ | ⟨ne, e⟩
    · have hl := lt_of_get e
      exact ⟨x, set_get (by rw [E.len]; exact hl), trivial⟩
    · obtain ⟨y, h1, h2⟩ := E.slots j s e
      exact ⟨y, by rw [List.getElem?_set_ne ne]; exact h1, h2⟩
  dist := fun j k ds es p e1 e2 e3 e4 => by
    rcases get_set e1 with ⟨_, z⟩ | ⟨n1, e1⟩
    · cases z
    · rcases get_set e2 with ⟨_, z⟩ | ⟨n2, e2⟩
      · cases z
      · rw [List.getElem?_set_ne n1] at e3
        rw [List.getElem?_set_ne n2] at e4
        exact E.dist j k ds es p e1 e2 e3 e4
  fresh := fun j ds p e1 e3 => by
    rcases get_set e1 with ⟨_, z⟩ | ⟨n1, e1⟩
    · cases z
    · rw [List.getElem?_set_ne n1] at e3
      exact E.fresh j ds p e1 e3
  d2 := E.d2.set (fun _ _ z => by cases z) _
theorem EnvR.ownAt (E : EnvR T K en ρ dk HS H σ) {ds : List D} (h : sl ρ i = .own ds) : ∃ p vs, ρ[i]? = some (.own ds) ∧ σ[i]? = some (some (.ref p)) ∧ ¬ dkMem dk p ∧ HS p = none ∧ H p = some (.lst vs) ∧ Rvs K HS vs ds ∧ en.H p = none := by
  have e := sl_get h fun z => nomatch z
  obtain ⟨y, h1, p, vs, rfl, m, n, h2, q⟩ := E.slots i _ e
  exact ⟨p, vs, e, h1, m, n, h2, q, E.fresh i ds p e h1⟩
/-- a list of one's own is changed -/
theorem EnvR.mut (E : EnvR T K en ρ dk HS H σ) {ds ds' : List D} {vs' : List V} {p : Addr} (e : ρ[i]? = some (.own ds)) (hs : σ[i]? = some (some (.ref p))) (m : ¬ dkMem dk p) (n : HS p = none) (f : en.H p = none) (q : Rvs K HS vs' ds') :
    EnvR T K en (ρ.set i (.own ds')) dk HS (upd H p (.lst vs')) σ where
  fin := by
    refine ⟨⟨fun b o h => ?_, E.wd.off, fun x g z => ?_⟩, E.fin.sh, fun b o h k => ?_, E.fin.new, E.fin.dks, E.fin.dkf⟩
    · rw [upd_ne (ne_of_none h n)]; exact E.wd.sub b o h
    · obtain ⟨z1, z2⟩ := E.wd.dkc x g z
      have m1 : x ≠ p := fun w => m (by rw [z, ← w]; exact .inl rfl)
      have m2 : g ≠ p := fun w => m (by rw [z, ← w]; exact .inr rfl)
      exact ⟨z1, T.loc (upd_ne m1).symm (upd_ne m2).symm z2⟩
    · rw [upd_ne (ne_of_none h f)]; exact E.fin.fr b o h k
  len := by rw [List.length_set, E.len]
  slots := fun j s e' => by
    rcases get_set e' with ⟨rfl, rfl⟩ | ⟨ne, e'⟩
    · exact ⟨_, hs, p, vs', rfl, m, n, upd_same, q⟩
    · obtain ⟨x, h1, h2⟩ := E.slots j s e'
      refine ⟨x, h1, ?_⟩
      cases s with
      | own es =>
        obtain ⟨p', us, rfl, m', n', h', q'⟩ := h2
        have np : p' ≠ p := fun z => by
          subst z
          exact ne (E.dist i j ds es p' e e' hs h1)
        exact ⟨p', us, rfl, m', n', by rw [upd_ne np]; exact h', q'⟩
      | nil => trivial
      | val d => exact h2
      | deck => exact h2
      | dct u kvs =>
        obtain ⟨p', o, rfl, m', n', h', q'⟩ := h2
        have np : p' ≠ p := fun z => by
          subst z
          obtain ⟨y, h3, p2, vs2, e3, _, _, h4, _⟩ := E.slots i _ e
          rw [hs] at h3
          obtain rfl : y = some (V.ref p') := (Option.some.inj h3).symm
          cases e3
          rw [h'] at h4
          cases h4
          exact q'.nlst
        exact ⟨p', o, rfl, m', n', by rw [upd_ne np]; exact h', q'⟩
  dist := fun j k ds1 es p' e1 e2 e3 e4 => by
    rcases get_set e1 with ⟨rfl, z⟩ | ⟨n1, e1⟩
    · rcases get_set e2 with ⟨rfl, z'⟩ | ⟨n2, e2⟩
      · rfl
      · exact E.dist i k ds es p' e e2 e3 e4
    · rcases get_set e2 with ⟨rfl, z'⟩ | ⟨n2, e2⟩
      · exact E.dist j i ds1 ds p' e1 e e3 e4
      · exact E.dist j k ds1 es p' e1 e2 e3 e4
  fresh := fun j ds1 p' e1 e3 => by
    rcases get_set e1 with ⟨rfl, z⟩ | ⟨n1, e1⟩
    · exact E.fresh i ds p' e e3
    · exact E.fresh j ds1 p' e1 e3
  d2 := E.d2.setK fun _ _ z => by cases z
/-- a list of one's own becomes a datum -/
theorem EnvR.freeze (E : EnvR T K en ρ dk HS H σ) {ds : List D} (h : sl ρ i = .own ds) : ∃ HS', EnvR T K en (ρ.set i (.val (.list ds))) dk HS' H σ := by
  obtain ⟨p, vs, e, hs, m, n, hp, q, f⟩ := E.ownAt h
  have sm : Same HS (upd HS p (.lst vs)) := fun b o z => by rw [upd_ne (ne_of_none z n)]; exact z
  refine ⟨upd HS p (.lst vs), ?_⟩
  refine ⟨⟨⟨fun b o z => ?_, fun b mb => ?_, E.wd.dkc⟩, E.fin.sh.trans sm, E.fin.fr, fun b z z' => ?_, E.fin.dks, E.fin.dkf⟩, by rw [List.length_set, E.len], fun j s e' => ?_, fun j k ds1 es p' e1 e2 e3 e4 => ?_, fun j ds1 p' e1 e3 => ?_, E.d2.setK fun _ _ z => by cases z⟩
  · by_cases c : b = p
    · subst c; rw [upd_same] at z; cases z; exact hp
    · rw [upd_ne c] at z; exact E.wd.sub b o z
  · rw [upd_ne (fun c => m (by rw [← c]; exact mb))]; exact E.wd.off b mb
  · by_cases c : b = p
    · subst c; exact f
    · rw [upd_ne c] at z'; exact E.fin.new b z z'
  · rcases get_set e' with ⟨rfl, rfl⟩ | ⟨ne, e'⟩
    · exact ⟨_, hs, _, rfl, .lst upd_same (dps_same sm _ _ q)⟩
    · obtain ⟨x, h1, h2⟩ := E.slots j s e'
      refine ⟨x, h1, ?_⟩
      cases s with
      | own es =>
        obtain ⟨p', us, rfl, m', n', h', q'⟩ := h2
        have np : p' ≠ p := fun z => by
          subst z
          exact ne (E.dist i j ds es p' e e' hs h1)
        exact ⟨p', us, rfl, m', by rw [upd_ne np]; exact n', h', dps_same sm _ _ q'⟩
      | nil => trivial
      | val d =>
        obtain ⟨v, e1, r⟩ := h2
        exact ⟨v, e1, dp_same sm _ _ r⟩
      | deck => exact h2
      | dct u kvs =>
        obtain ⟨p', o, rfl, m', n', h', q'⟩ := h2
        have np : p' ≠ p := fun z => by
          subst z
          rw [hp] at h'
          cases h'
          exact q'.nlst
        exact ⟨p', o, rfl, m', by rw [upd_ne np]; exact n', h', q'.same sm⟩
  · rcases get_set e1 with ⟨rfl, z⟩ | ⟨n1, e1⟩
    · cases z
    · rcases get_set e2 with ⟨rfl, z⟩ | ⟨n2, e2⟩
      · cases z
      · exact E.dist j k ds1 es p' e1 e2 e3 e4
  · rcases get_set e1 with ⟨rfl, z⟩ | ⟨n1, e1⟩
    · cases z
    · exact E.fresh j ds1 p' e1 e3
/-- a new list that nobody else knows: H the heap ahead -/
def FrL (K : PySem.W.Frag) (dk : DkA) (HS H H1 : Hp) (v : V) (ds : List D) : Prop := ∃ p vs, v = .ref p ∧ H p = none ∧ ¬ dkMem dk p ∧ HS p = none ∧ H1 p = some (.lst vs) ∧ Rvs K HS vs ds
/-- .. stands at a name -/
theorem EnvR.setOwn (E : EnvR T K en ρ dk HS H σ) (s : Stp T dk HS H HS1 H1) {v : V} {ds : List D} (r : FrL K dk HS1 H H1 v ds) : EnvR T K en (ρ.set i (.own ds)) dk HS1 H1 (σ.set i (some v)) := by
  obtain ⟨p, vs, rfl, hn, m, n, hp, q⟩ := r
  have E1 := E.stp s
  have nown : ∀ (j : Nat) (es : List D), ρ[j]? = some (.own es) → σ[j]? ≠ some (some (.ref p)) := fun j es e1 e2 => by
    obtain ⟨x, h1, p', us, rfl, _, _, h', _⟩ := E.slots j _ e1
    rw [e2] at h1
    cases h1
    rw [hn] at h'; cases h'
  refine ⟨E1.fin, by rw [List.length_set, List.length_set, E1.len], fun j t e => ?_, fun j k ds1 es p' e1 e2 e3 e4 => ?_, fun j ds1 p' e1 e3 => ?_, E.d2.set (fun _ _ z => by cases z) _⟩
  · rcases get_set e with ⟨rfl, rfl⟩ | ⟨ne, e⟩
    · have hl := lt_of_get e
      exact ⟨_, set_get (by rw [E.len]; exact hl), p, vs, rfl, m, n, hp, q⟩
    · obtain ⟨x, h1, h2⟩ := E1.slots j t e
      exact ⟨x, by rw [List.getElem?_set_ne ne]; exact h1, h2⟩
  · have at_ : ∀ (j : Nat) (es : List D), (ρ.set i (.own ds))[j]? = some (.own es) → (σ.set i (some (.ref p)))[j]? = some (some (.ref p')) → (j = i ∧ p' = p) ∨ (j ≠ i ∧ ρ[j]? = some (.own es) ∧ σ[j]? = some (some (.ref p')) ∧ p' ≠ p) := fun j es a b => by
      rcases get_set a with ⟨rfl, _⟩ | ⟨n1, a⟩
      · rcases get_set b with ⟨_, z⟩ | ⟨n2, _⟩
        · cases z; exact .inl ⟨rfl, rfl⟩
        · exact absurd rfl n2
      · rcases get_set b with ⟨z, _⟩ | ⟨_, b⟩
        · exact absurd z n1
        · exact .inr ⟨fun z => n1 z.symm, a, b, fun z => nown j es a (z ▸ b)⟩
    rcases at_ j ds1 e1 e3 with ⟨rfl, z1⟩ | ⟨_, a1, b1, c1⟩
    · rcases at_ k es e2 e4 with ⟨rfl, _⟩ | ⟨_, _, _, c2⟩
      · rfl
      · exact absurd z1 c2
    · rcases at_ k es e2 e4 with ⟨rfl, z2⟩ | ⟨_, a2, b2, _⟩
      · exact absurd z2 c1
      · exact E.dist j k ds1 es p' a1 a2 b1 b2
  · rcases get_set e1 with ⟨rfl, _⟩ | ⟨n1, e1⟩
    · rcases get_set e3 with ⟨_, z⟩ | ⟨n2, _⟩
      · cases z
        cases w : en.H p with
        | none => rfl
        | some o =>
          by_cases me : dkMem en.dk p
          · rcases E.fin.dks with z | z
            · rw [z] at me; exact me.elim
            · rw [z] at m; exact absurd me m
          · have := E.fin.fr p o w me
            rw [hn] at this; cases this
      · exact absurd rfl n2
    · rcases get_set e3 with ⟨z, _⟩ | ⟨_, e3⟩
      · exact absurd z n1
      · exact E.fresh j ds1 p' e1 e3
/-- a new dict that nobody else knows: H the heap ahead -/
def FrD (K : PySem.W.Frag) (dk : DkA) (HS H H1 : Hp) (v : V) (t : Bool) (kvs : List (D × D)) : Prop := ∃ p o, v = .ref p ∧ H p = none ∧ ¬ dkMem dk p ∧ HS p = none ∧ H1 p = some o ∧ DctR K HS t kvs o
theorem EnvR.nodct (E : EnvR T K en ρ dk HS H σ) {p : Addr} (hn : H p = none) (j : Nat) (t : Bool) (kvs : List (D × D)) (e1 : ρ[j]? = some (.dct t kvs)) : σ[j]? ≠ some (some (.ref p)) := fun e2 => by
  obtain ⟨x, h1, p', o, rfl, _, _, h', _⟩ := E.slots j _ e1
  rw [e2] at h1
  cases h1
  rw [hn] at h'; cases h'
theorem EnvR.newp (E : EnvR T K en ρ dk HS H σ) {p : Addr} (hn : H p = none) (m : ¬ dkMem dk p) : en.H p = none := by
  cases w : en.H p with
  | none => rfl
  | some o =>
    by_cases me : dkMem en.dk p
    · rcases E.fin.dks with z | z
      · rw [z] at me; exact me.elim
      · rw [z] at m; exact absurd me m
    · have := E.fin.fr p o w me
      rw [hn] at this; cases this
/-- .. stands at a name -/
theorem EnvR.setDct (E : EnvR T K en ρ dk HS H σ) (s : Stp T dk HS H HS1 H1) {v : V} {t : Bool} {kvs : List (D × D)} (r : FrD K dk HS1 H H1 v t kvs) : EnvR T K en (ρ.set i (.dct t kvs)) dk HS1 H1 (σ.set i (some v)) := by
  obtain ⟨p, o, rfl, hn, m, n, hp, q⟩ := r
  have E1 := E.stp s
  have nd := E.nodct hn
  have hen := E.newp hn m
  have at_ : ∀ (j : Nat) (u : Bool) (es : List (D × D)) (p' : Addr), (ρ.set i (.dct t kvs))[j]? = some (.dct u es) → (σ.set i (some (.ref p)))[j]? = some (some (.ref p')) → (j = i ∧ p' = p) ∨ (j ≠ i ∧ ρ[j]? = some (.dct u es) ∧ σ[j]? = some (some (.ref p')) ∧ p' ≠ p) := fun j u es p' a b => by
    rcases get_set a with ⟨rfl, _⟩ | ⟨n1, a⟩
    · rcases get_set b with ⟨_, z⟩ | ⟨n2, _⟩
      · cases z; exact .inl ⟨rfl, rfl⟩
      · exact absurd rfl n2
    · rcases get_set b with ⟨z, _⟩ | ⟨_, b⟩
      · exact absurd z n1
      · exact .inr ⟨fun z => n1 z.symm, a, b, fun z => nd j u es a (z ▸ b)⟩
  refine ⟨E1.fin, by rw [List.length_set, List.length_set, E1.len], fun j s' e => ?_, fun j k ds1 es p' e1 e2 e3 e4 => ?_, fun j ds1 p' e1 e3 => ?_, fun j k u1 u2 ds1 es p' e1 e2 e3 e4 => ?_, fun j u ds1 p' e1 e3 => ?_⟩
  · rcases get_set e with ⟨rfl, rfl⟩ | ⟨ne, e⟩
    · have hl := lt_of_get e
      exact ⟨_, set_get (by rw [E.len]; exact hl), p, o, rfl, m, n, hp, q⟩
    · obtain ⟨x, h1, h2⟩ := E1.slots j s' e
      exact ⟨x, by rw [List.getElem?_set_ne ne]; exact h1, h2⟩
  · rcases get_set e1 with ⟨rfl, z⟩ | ⟨n1, e1⟩
    · cases z
    · rcases get_set e2 with ⟨rfl, z⟩ | ⟨n2, e2⟩
      · cases z
      · rw [List.getElem?_set_ne n1] at e3
        rw [List.getElem?_set_ne n2] at e4
        exact E.dist j k ds1 es p' e1 e2 e3 e4
  · rcases get_set e1 with ⟨rfl, z⟩ | ⟨n1, e1⟩
    · cases z
    · rw [List.getElem?_set_ne n1] at e3
      exact E.fresh j ds1 p' e1 e3
  · rcases at_ j u1 ds1 p' e1 e3 with ⟨rfl, z1⟩ | ⟨_, a1, b1, c1⟩
    · rcases at_ k u2 es p' e2 e4 with ⟨rfl, _⟩ | ⟨_, _, _, c2⟩
      · rfl
      · exact absurd z1 c2
    · rcases at_ k u2 es p' e2 e4 with ⟨rfl, z2⟩ | ⟨_, a2, b2, _⟩
      · exact absurd z2 c1
      · exact E.d2.dist j k u1 u2 ds1 es p' a1 a2 b1 b2
  · rcases at_ j u ds1 p' e1 e3 with ⟨rfl, z1⟩ | ⟨_, a1, b1, c1⟩
    · rw [z1]; exact hen
    · exact E.d2.fresh j u ds1 p' a1 b1
theorem EnvR.dctAt (E : EnvR T K en ρ dk HS H σ) {t : Bool} {kvs : List (D × D)} (h : sl ρ i = .dct t kvs) : ∃ p o, ρ[i]? = some (.dct t kvs) ∧ σ[i]? = some (some (.ref p)) ∧ ¬ dkMem dk p ∧ HS p = none ∧ H p = some o ∧ DctR K HS t kvs o ∧ en.H p = none := by
  have e := sl_get h fun z => nomatch z
  obtain ⟨y, h1, p, o, rfl, m, n, h2, q⟩ := E.slots i _ e
  exact ⟨p, o, e, h1, m, n, h2, q, E.d2.fresh i t kvs p e h1⟩
/-- a dict of one's own is changed -/
theorem EnvR.mutD (E : EnvR T K en ρ dk HS H σ) {t : Bool} {kvs kvs' : List (D × D)} {o' : HO} {p : Addr} (e : ρ[i]? = some (.dct t kvs)) (hs : σ[i]? = some (some (.ref p))) (m : ¬ dkMem dk p) (n : HS p = none) (f : en.H p = none) (q : DctR K HS t kvs' o') :
    EnvR T K en (ρ.set i (.dct t kvs')) dk HS (upd H p o') σ := by
  have hpo : ∃ o, H p = some o ∧ DctR K HS t kvs o := by
    obtain ⟨y, h3, p2, o2, e3, _, _, h4, q4⟩ := E.slots i _ e
    rw [hs] at h3
    cases Option.some.inj h3
    cases e3
    exact ⟨o2, h4, q4⟩
  obtain ⟨o, ho, qo⟩ := hpo
  refine ⟨⟨⟨fun b o hb => ?_, E.fin.wd.off, fun a g hd => ?_⟩, E.fin.sh, fun b o hb hm => ?_, E.fin.new, E.fin.dks, E.fin.dkf⟩, by rw [List.length_set, E.len], fun j s ej => ?_, fun j k ds1 es p' e1 e2 e3 e4 => ?_, fun j ds1 p' e1 e3 => ?_, fun j k u1 u2 ds1 es p' e1 e2 e3 e4 => ?_, fun j u ds1 p' e1 e3 => ?_⟩
  · rw [upd_ne (ne_of_none hb n)]; exact E.wd.sub b o hb
  · obtain ⟨c1, c2⟩ := E.wd.dkc a g hd
    refine ⟨c1, T.loc ?_ ?_ c2⟩
    · exact (upd_ne (fun z => m (by rw [hd]; exact .inl z.symm))).symm
    · exact (upd_ne (fun z => m (by rw [hd]; exact .inr z.symm))).symm
  · rw [upd_ne (ne_of_none hb f)]; exact E.fin.fr b o hb hm
  · rcases get_set ej with ⟨rfl, rfl⟩ | ⟨ne, ej⟩
    · exact ⟨_, hs, p, o', rfl, m, n, upd_same, q⟩
    · obtain ⟨x, h1, h2⟩ := E.slots j s ej
      refine ⟨x, h1, ?_⟩
      cases s with
      | nil => trivial
      | val d => exact h2
      | deck => exact h2
      | own es =>
        obtain ⟨p', vs', rfl, m', n', h', q'⟩ := h2
        have np : p' ≠ p := fun z => by
          subst z
          rw [ho] at h'
          cases h'
          exact qo.nlst
        exact ⟨p', vs', rfl, m', n', by rw [upd_ne np]; exact h', q'⟩
      | dct u lvs =>
        obtain ⟨p', o2, rfl, m', n', h', q'⟩ := h2
        have np : p' ≠ p := fun z => by
          subst z
          exact ne (E.d2.dist i j t u kvs lvs p' e ej hs h1)
        exact ⟨p', o2, rfl, m', n', by rw [upd_ne np]; exact h', q'⟩
  · rcases get_set e1 with ⟨rfl, z⟩ | ⟨n1, e1⟩
    · cases z
    · rcases get_set e2 with ⟨rfl, z⟩ | ⟨n2, e2⟩
      · cases z
      · exact E.dist j k ds1 es p' e1 e2 e3 e4
  · rcases get_set e1 with ⟨rfl, z⟩ | ⟨n1, e1⟩
    · cases z
    · exact E.fresh j ds1 p' e1 e3
  · have at_ : ∀ (j : Nat) (u : Bool) (es : List (D × D)), (ρ.set i (.dct t kvs'))[j]? = some (.dct u es) → ∃ u' es', ρ[j]? = some (.dct u' es') := fun j u es a => by
      rcases get_set a with ⟨rfl, _⟩ | ⟨n1, a⟩
      · exact ⟨_, _, e⟩
      · exact ⟨_, _, a⟩
    obtain ⟨_, _, a1⟩ := at_ j u1 ds1 e1
    obtain ⟨_, _, a2⟩ := at_ k u2 es e2
    exact E.d2.dist j k _ _ _ _ p' a1 a2 e3 e4
  · rcases get_set e1 with ⟨rfl, _⟩ | ⟨n1, e1⟩
    · exact E.d2.fresh i t kvs p' e e3
    · exact E.d2.fresh j u ds1 p' e1 e3
/-- .. is given away -/
theorem FrL.share (w : Wd T dk HS H) (s : Stp T dk HS H HS1 H1) {v : V} {ds : List D} (r : FrL K dk HS1 H H1 v ds) : ∃ HS2, Stp T dk HS H HS2 H1 ∧ Rv K HS2 v (.list ds) := by
  obtain ⟨p, vs, rfl, hn, m, n, hp, q⟩ := r
  have sm : Same HS1 (upd HS1 p (.lst vs)) := fun b o z => by rw [upd_ne (ne_of_none z n)]; exact z
  refine ⟨upd HS1 p (.lst vs), ⟨s.sh.trans sm, s.fr, fun b z z' => ?_, ⟨fun b o z => ?_, fun b mb => ?_, s.wd.dkc⟩⟩, .lst upd_same (dps_same sm _ _ q)⟩
  · by_cases c : b = p
    · subst c; exact hn
    · rw [upd_ne c] at z'; exact s.new b z z'
  · by_cases c : b = p
    · subst c; rw [upd_same] at z; cases z; exact hp
    · rw [upd_ne c] at z; exact s.wd.sub b o z
  · rw [upd_ne (fun c => m (by rw [← c]; exact mb))]; exact s.wd.off b mb
end

/-! ### expressions that make a new list -/
def lF (T : DKd) (K : PySem.W.Frag) (t : DT (List D)) : TE := fun σ H Q => ∃ en ρ dk HS P, EnvR T K en ρ dk HS H σ ∧ t ρ P ∧ ∀ ds v HS1 H1, P ds → Stp T dk HS H HS1 H1 → FrL K dk HS1 H H1 v ds → Q v H1
structure DF (T : DKd) (X : Cx) (e : Expr) (t : DT (List D)) : Prop where
  pe : PE X e (lF T X.K t)
def xShare (t : DT (List D)) : DT D := fun ρ P => t ρ fun ds => P (.list ds)
section
variable {T : DKd} {X : Cx} {e e2 : Expr} {es : List Expr} {ta tb : DT D} {tr : DT (List D)} {pos : Pos}
theorem DF.de (h : DF T X e tr) : DE T X e (xShare tr) := ⟨PE.imp h.pe fun σ H Q ⟨en, ρ, dk, HS, P, E, q, k⟩ =>
  ⟨en, ρ, dk, HS, _, E, q, fun ds v HS1 H1 p s r => by
    obtain ⟨HS2, s2, rv⟩ := r.share E.wd s
    exact k _ _ HS2 H1 p s2 rv⟩⟩
theorem new_own {K : PySem.W.Frag} {dk : DkA} {HS H HS1 H1 : Hp} {p : Addr} {vs : List V} {ds : List D} (s : Stp T dk HS H HS1 H1) (hp : H1 p = none) (hm : H p = none) (q : Rvs K HS1 vs ds) : Stp T dk HS H HS1 (upd H1 p (.lst vs)) ∧ FrL K dk HS1 H (upd H1 p (.lst vs)) (.ref p) ds := by
  obtain ⟨s2, m, n⟩ := s.wd.layOwn (o := .lst vs) hp
  exact ⟨s.trans s2, p, vs, rfl, hm, m, n, upd_same, q⟩
/-- what is not there now was not there -/
theorem Stp.back {dk : DkA} {HS H HS1 H1 : Hp} (s : Stp T dk HS H HS1 H1) {p : Addr} (h : H1 p = none) : H p = none := by
  cases q : H p with
  | none => rfl
  | some o =>
    by_cases m : dkMem dk p
    · cases dk with
      | none => exact m.elim
      | some pg =>
        obtain ⟨a, g⟩ := pg
        have z := (s.wd.dkc a g rfl).2
        rcases m with m | m
        · subst m; exact absurd h (T.fstS z)
        · subst m; exact absurd h (T.sndS z)
    · rw [s.fr p o q m] at h; cases h
def xLstF (t : DT (List D)) : DT (List D) := fun ρ P => t ρ fun ds => ds.length ≤ sizeLine ∧ P ds
theorem df_lst (h : DI T X es tr) : DF T X (.List es pos) (xLstF tr) :=
  ⟨PE.imp (pe_lst h.pa) fun σ H Q h => by
    obtain ⟨en, ρ, dk, HS, P, E, q, k⟩ := h
    refine ⟨en, ρ, dk, HS, _, E, q, fun ds vs HS1 H1 p s r => ⟨by rw [r.len]; exact p.1, fun a ha => ?_⟩⟩
    obtain ⟨s2, rv⟩ := new_own s ha (s.back ha) r
    exact k _ _ _ _ p.2 s2 rv⟩
def xListF (ta : DT D) : DT (List D) := fun ρ P => ta ρ fun d => ∃ ds, itemsOf d = some ds ∧ P ds
/-- list(e) -/
theorem df_list {p : Pos} (hg : Gl X "list") (hm : X.mg "list" = none) (ha : DR T X e ta) (he : starEach [e] X.env = (false, eval e X.env) :: starEach [] X.env := by rfl) : DF T X (.Call (.Name "list" p) [e] [] pos) (xListF ta) :=
  ⟨PE.imp (pe_callTy call_list_of hg hm (by decide +kernel) (pa_cons ha.pe pa_nil he) (by decide) (by decide) he) fun σ H Q h => by
    obtain ⟨en, ρ, dk, HS, P, E, q, k⟩ := h
    refine ⟨en, ρ, dk, HS, _, E, q, fun d v HS1 H1 p s r => ?_⟩
    obtain ⟨ds, e1, p⟩ := p
    cases d <;> try cases e1
    case list =>
      obtain ⟨a, vs, rfl, h1, q1⟩ := r.lst s.wd
      refine ⟨a, vs, rfl, .inl (SqL.of h1), fun l hl => ?_⟩
      obtain ⟨s2, rv⟩ := new_own s hl (s.back hl) q1
      exact k _ _ _ _ p s2 rv
    case tuple =>
      obtain ⟨a, vs, rfl, _, h1, q1⟩ := r.tup s.wd
      refine ⟨a, vs, rfl, .inr h1, fun l hl => ?_⟩
      obtain ⟨s2, rv⟩ := new_own s hl (s.back hl) q1
      exact k _ _ _ _ p s2 rv⟩
def xRepF (ta tb : DT D) : DT (List D) := fun ρ P => ta ρ fun d => tb ρ fun n => ∃ ds k, d = .list ds ∧ n = .int k ∧ -(2 ^ 63) ≤ k ∧ k < 2 ^ 63 ∧ ds.length * k.toNat ≤ sizeLine ∧ P (List.replicate k.toNat ds).flatten
/-- [..] * n -/
theorem df_rep (ha : DR T X e ta) (hb : DR T X e2 tb) : DF T X (.BinOp e .Mult e2 pos) (xRepF ta tb) :=
  ⟨PE.imp (pe_op op_rep ha.pe hb.pe) fun σ H Q h => by
    obtain ⟨en, ρ, dk, HS, P, E, q, k⟩ := h
    refine ⟨en, ρ, dk, HS, _, E, q, fun d v HS1 H1 p s r => ⟨en, ρ, dk, HS1, _, E.stp s, p, fun d2 v2 HS2 H2 p2 s2 r2 => ?_⟩⟩
    obtain ⟨ds, n, rfl, rfl, c1, c2, c3, p2⟩ := p2
    obtain ⟨a, vs, rfl, h1, q1⟩ := (r.step s2).lst s2.wd
    refine ⟨a, n, vs, rfl, r2.int, h1, c1, c2, by rw [q1.len]; exact c3, fun l hl => ?_⟩
    obtain ⟨s3, rv⟩ := new_own (s.trans s2) hl ((s.trans s2).back hl) (q1.repA n.toNat)
    exact k _ _ _ _ p2 s3 rv⟩
def xCatF (ta tb : DT D) : DT (List D) := fun ρ P => ta ρ fun d => tb ρ fun d2 => ∃ ds es, d = .list ds ∧ d2 = .list es ∧ ds.length + es.length ≤ sizeLine ∧ P (ds ++ es)
/-- a list + a list -/
theorem df_cat (ha : DR T X e ta) (hb : DR T X e2 tb) : DF T X (.BinOp e .Add e2 pos) (xCatF ta tb) :=
  ⟨PE.imp (pe_op op_cat ha.pe hb.pe) fun σ H Q h => by
    obtain ⟨en, ρ, dk, HS, P, E, q, k⟩ := h
    refine ⟨en, ρ, dk, HS, _, E, q, fun d v HS1 H1 p s r => ⟨en, ρ, dk, HS1, _, E.stp s, p, fun d2 v2 HS2 H2 p2 s2 r2 => ?_⟩⟩
    obtain ⟨ds, es, rfl, rfl, c3, p2⟩ := p2
    obtain ⟨a, vs, rfl, h1, q1⟩ := (r.step s2).lst s2.wd
    obtain ⟨a2, vs2, rfl, h2, q2⟩ := r2.lst s2.wd
    refine ⟨a, a2, vs, vs2, rfl, rfl, h1, h2, by rw [q1.len, q2.len]; exact c3, fun l hl => ?_⟩
    obtain ⟨s3, rv⟩ := new_own (s.trans s2) hl ((s.trans s2).back hl) (q1.app q2)
    exact k _ _ _ _ p2 s3 rv⟩
def xRevF (ta : DT D) : DT (List D) := fun ρ P => ta ρ fun d => ∃ ds, d = .list ds ∧ P ds.reverse
theorem df_rev {k0 : Nat} {p1 p2 p3 : Pos} (he : DR T X e ta) : DF T X (.Subscript e (.Slice none none (some (.UnaryOp .USub (.Constant (.int 1) k0 p1) p2)) p3) pos) (xRevF ta) :=
  ⟨PE.imp (pe_revL he.pe) fun σ H Q h => by
    obtain ⟨en, ρ, dk, HS, P, E, q, k⟩ := h
    refine ⟨en, ρ, dk, HS, _, E, q, fun d v HS1 H1 p s r => ?_⟩
    obtain ⟨ds, rfl, p⟩ := p
    obtain ⟨a, vs, rfl, h1, q1⟩ := r.lst s.wd
    refine ⟨a, vs, rfl, SqL.of h1, fun b hb => ?_⟩
    obtain ⟨s2, rv⟩ := new_own s hb (s.back hb) q1.revA
    exact k _ _ _ _ p s2 rv⟩
def xCutF (ta : DT D) (tl th : DT (Option Int)) : DT (List D) := fun ρ P => ta ρ fun x => tl ρ fun lo => th ρ fun hi => ∃ ds, x = .list ds ∧ P (cutD ds lo hi)
theorem df_cut {lo hi : Option Expr} {tl th : DT (Option Int)} {p2 : Pos} (he : DR T X e ta) (hl : DO T X lo tl) (hh : DO T X hi th) : DF T X (.Subscript e (.Slice lo hi none p2) pos) (xCutF ta tl th) :=
  ⟨PE.imp (pe_slice sl_list he.pe hl.po hh.po) fun σ H Q h => by
    obtain ⟨en, ρ, dk, HS, P, E, q, k⟩ := h
    refine ⟨en, ρ, dk, HS, _, E, q, fun d v HS1 H1 p s r => ⟨en, ρ, dk, HS1, _, E.stp s, p, fun lo HS2 H2 p2 s2 => ⟨en, ρ, dk, HS2, _, (E.stp s).stp s2, p2, fun hi HS3 H3 p3 s3 => ?_⟩⟩⟩
    obtain ⟨ds, rfl, pz⟩ := p3
    have r3 := (r.step s2).step s3
    obtain ⟨a, vs, rfl, h1, q1⟩ := r3.lst s3.wd
    have s13 := s.trans (s2.trans s3)
    refine ⟨a, vs, rfl, SqL.of h1, fun b hb => ?_⟩
    obtain ⟨s4, rv⟩ := new_own s13 hb (s13.back hb) (q1.cut lo hi)
    exact k _ _ _ _ pz s4 rv⟩
end

/-! ### blocks and small statements -/
def yNext : DTS := fun P ρ => P.nx ρ
/-- a stop between two statements: readings unfold up to here -/
structure At (Q : Envd → Prop) (ρ : Envd) : Prop where
  run : Q ρ
theorem At.to {Q : Envd → Prop} {ρ ρ' : Envd} (e : ρ = ρ') (h : Q ρ') : At Q ρ := ⟨e ▸ h⟩
def ySeq (t u : DTS) : DTS := fun P ρ => t { P with nx := At (u P) } ρ
def ySet (i : Nat) (ta : DT D) : DTS := fun P ρ => ta ρ fun d => P.nx (ρ.set i (.val d))
def yOwn (i : Nat) (ta : DT (List D)) : DTS := fun P ρ => ta ρ fun d => P.nx (ρ.set i (.own d))
def yRet (ta : DT D) : DTS := fun P ρ => ta ρ P.rt
def yRetN : DTS := fun P _ => P.rt .none
def yDrop (ta : DT D) : DTS := fun P ρ => ta ρ fun _ => P.nx ρ
def yIf (c : DT Bool) (t u : DTS) : DTS := fun P ρ => c ρ fun b => if b = true then t P ρ else u P ρ
def yBreak : DTS := fun P ρ => P.bk ρ
def yCont : DTS := fun P ρ => P.ct ρ
/-- the list of one's own at slot i becomes a datum -/
def frz (i : Nat) (ρ : Envd) : Envd := match sl ρ i with
  | .own ds => ρ.set i (.val (.list ds))
  | _ => ρ
def yFrz (i : Nat) (t : DTS) : DTS := fun P ρ => At (t P) (frz i ρ)
section
variable {T : DKd} {X : Cx} {st : Stmt} {sts : List Stmt} {t u : DTS} {e : Expr} {ta tb : DT D} {tl : DT (List D)} {sc : DT Bool} {pos : Pos}
theorem dss_nil : DSs T X [] yNext := ⟨PSs.imp pss_nil fun De σ H ⟨en, ρ, dk, HS, P, x⟩ => x.nx _ _ _ _ _ x.does x.env⟩
theorem dss_cons (h1 : DS T X st t) (h2 : DSs T X sts u) : DSs T X (st :: sts) (ySeq t u) := ⟨PSs.imp (pss_cons h1.ps h2.ps) fun De σ H ⟨en, ρ, dk, HS, P, x⟩ =>
  ⟨en, ρ, dk, HS, { P with nx := At (u P) }, x.env, x.does, fun ρ1 dk1 HS1 H1 σ1 h E => ⟨en, ρ1, dk1, HS1, P, E, h.run, x.nx, x.rt, x.bk, x.ct⟩, x.rt, x.bk, x.ct⟩⟩
theorem dss_one (h1 : DS T X st t) : DSs T X [st] t := ⟨pss_one h1.ps⟩
theorem ds_pass : DS T X (.Pass pos) yNext := ⟨PS.imp ps_pass fun De σ H ⟨en, ρ, dk, HS, P, x⟩ => x.nx _ _ _ _ _ x.does x.env⟩
theorem ds_break : DS T X (.Break pos) yBreak := ⟨PS.imp ps_break fun De σ H ⟨en, ρ, dk, HS, P, x⟩ => x.bk _ _ _ _ _ x.does x.env⟩
theorem ds_continue : DS T X (.Continue pos) yCont := ⟨PS.imp ps_continue fun De σ H ⟨en, ρ, dk, HS, P, x⟩ => x.ct _ _ _ _ _ x.does x.env⟩
theorem dss_frz (i : Nat) (h : DSs T X sts t) : DSs T X sts (yFrz i t) := ⟨PSs.imp h.ps fun De σ H ⟨en, ρ, dk, HS, P, x⟩ => by
  have q : t P (frz i ρ) := x.does.run
  unfold frz at q
  split at q
  · rename_i ds hs
    obtain ⟨HS', E⟩ := x.env.freeze hs
    exact ⟨en, _, dk, HS', P, E, q, x.nx, x.rt, x.bk, x.ct⟩
  · exact ⟨en, ρ, dk, HS, P, x.env, q, x.nx, x.rt, x.bk, x.ct⟩⟩
/-- name = e -/
theorem ds_set (i : Nat) {x : Str} {pos' : Pos} (hN : X.N.Nodup) (he : DE T X e ta) (hi : X.N[i]? = some x := by rfl) (hx : Loc X.env.scope x := by first | exact .inl rfl | exact .inr rfl) (hs : swapsWith e (some (.Name x pos')) pos.line X.env = pure false := by rfl)
    (hf : X.fn x = true ∨ X.env.scope.names.lookup x = some .local := by first | exact .inl rfl | exact .inr rfl) : DS T X (.Assign [.Name x pos'] e pos) (ySet i ta) :=
  ⟨PS.imp (ps_set hN hi hx he.pe hs hf) fun De σ H ⟨en, ρ, dk, HS, P, x⟩ => ⟨en, ρ, dk, HS, _, x.env, x.does, fun d v HS1 H1 p s r => x.nx _ _ _ _ _ p ((x.env.stp s).set r)⟩⟩
theorem ds_own (i : Nat) {x : Str} {pos' : Pos} (hN : X.N.Nodup) (he : DF T X e tl) (hi : X.N[i]? = some x := by rfl) (hx : Loc X.env.scope x := by first | exact .inl rfl | exact .inr rfl) (hs : swapsWith e (some (.Name x pos')) pos.line X.env = pure false := by rfl)
    (hf : X.fn x = true ∨ X.env.scope.names.lookup x = some .local := by first | exact .inl rfl | exact .inr rfl) : DS T X (.Assign [.Name x pos'] e pos) (yOwn i tl) :=
  ⟨PS.imp (ps_set hN hi hx he.pe hs hf) fun De σ H ⟨en, ρ, dk, HS, P, x⟩ => ⟨en, ρ, dk, HS, _, x.env, x.does, fun d v HS1 H1 p s r => x.nx _ _ _ _ _ p (x.env.setOwn s r)⟩⟩
theorem ds_ret (he : DE T X e ta) : DS T X (.Return (some e) pos) (yRet ta) :=
  ⟨PS.imp (ps_ret he.pe) fun De σ H ⟨en, ρ, dk, HS, P, x⟩ => ⟨en, ρ, dk, HS, _, x.env, x.does, fun d v HS1 H1 p s r => x.rt _ _ dk _ _ p (x.env.fin.stp s) r⟩⟩
theorem ds_retN : DS T X (.Return none pos) yRetN := ⟨PS.imp ps_retN fun De σ H ⟨en, ρ, dk, HS, P, x⟩ => x.rt _ _ _ _ _ x.does x.env.fin .non⟩
theorem ds_expr (he : DE T X e ta) (hs : swapsWith e none pos.line X.env = pure false := by rfl) : DS T X (.Expr e pos) (yDrop ta) :=
  ⟨PS.imp (ps_expr he.pe hs) fun De σ H ⟨en, ρ, dk, HS, P, x⟩ => ⟨en, ρ, dk, HS, _, x.env, x.does, fun d v HS1 H1 p s r => x.nx _ _ _ _ _ p (x.env.stp s)⟩⟩
theorem ds_if {c : Expr} {a b : List Stmt} (hc : DB T X c sc) (ha : DSs T X a t) (hb : DSs T X b u) : DS T X (.If c a b pos) (yIf sc t u) :=
  ⟨PS.imp (ps_if hc.pt ha.ps hb.ps) fun De σ H ⟨en, ρ, dk, HS, P, x⟩ => ⟨en, ρ, dk, HS, _, x.env, x.does, fun b HS1 H1 p s => by
    cases b with
    | true => exact ⟨en, ρ, dk, HS1, P, x.env.stp s, p, x.nx, x.rt, x.bk, x.ct⟩
    | false => exact ⟨en, ρ, dk, HS1, P, x.env.stp s, p, x.nx, x.rt, x.bk, x.ct⟩⟩⟩
end

/-! ### lists of one's own -/
def yApp (i : Nat) (ta : DT D) : DTS := fun P ρ => ∃ ds, sl ρ i = .own ds ∧ ta ρ fun d => ds.length < sizeLine ∧ P.nx (ρ.set i (.own (ds ++ [d])))
/-- xs.extend(e), e read -/
def yExt (i : Nat) (ta : DT D) : DTS := fun P ρ => ∃ ds, sl ρ i = .own ds ∧ ta ρ fun d => ∃ es, d = .list es ∧ ds.length + es.length ≤ sizeLine ∧ P.nx (ρ.set i (.own (ds ++ es)))
/-- x = xs.pop() -/
def yPop (j i : Nat) : DTS := fun P ρ => ∃ ds d, sl ρ i = .own ds ∧ ds.getLast? = some d ∧ P.nx ((ρ.set i (.own ds.dropLast)).set j (.val d))
def yPopD (i : Nat) : DTS := fun P ρ => ∃ ds, sl ρ i = .own ds ∧ ds ≠ [] ∧ P.nx (ρ.set i (.own ds.dropLast))
/-- x = xs.pop(e) -/
def yPopAt (j i : Nat) (ta : DT D) : DTS := fun P ρ => ∃ ds, sl ρ i = .own ds ∧ ta ρ fun n => ∃ k m d, n = .int k ∧ (-(2 ^ 63) ≤ k ∧ k < 2 ^ 63) ∧ ixN ds.length k = some m ∧ ds[m]? = some d ∧ P.nx ((ρ.set i (.own (ds.eraseIdx m))).set j (.val d))
/-- ys.append(xs.pop(e)) -/
def yAppPopAt (j i : Nat) (ta : DT D) : DTS := fun P ρ => ∃ ds es, sl ρ i = .own ds ∧ i ≠ j ∧ sl ρ j = .own es ∧ ta ρ fun n => ∃ k m d, n = .int k ∧ (-(2 ^ 63) ≤ k ∧ k < 2 ^ 63) ∧ ixN ds.length k = some m ∧ ds[m]? = some d ∧ es.length < sizeLine ∧ P.nx ((ρ.set i (.own (ds.eraseIdx m))).set j (.own (es ++ [d])))
/-- xs[e] = v -/
def yPut (i : Nat) (tv ti : DT D) : DTS := fun P ρ => ∃ ds, sl ρ i = .own ds ∧ tv ρ fun d => ti ρ fun n => ∃ k m, n = .int k ∧ ixN ds.length k = some m ∧ P.nx (ρ.set i (.own (ds.set m d)))
section
variable {T : DKd} {X : Cx} {e e2 : Expr} {ta tb : DT D} {pos : Pos}
theorem sl_stay {ρ : Envd} {i j : Nat} {s : Slot} (h : i ≠ j) : sl (ρ.set i s) j = sl ρ j := by
  unfold sl
  rw [List.getElem?_set_ne h]
theorem pop_get {ds : List D} {d : D} {K : PySem.W.Frag} {H : Hp} {vs : List V} (q : Rvs K H vs ds) (h : ds.getLast? = some d) : ∃ v, vs[vs.length - 1]? = some v ∧ Rv K H v d := by
  rw [List.getLast?_eq_getElem?] at h
  rw [q.len]
  exact q.getD h
theorem Rvs.dropL {K : PySem.W.Frag} {H : Hp} {vs : List V} {ds : List D} (q : Rvs K H vs ds) : Rvs K H vs.dropLast ds.dropLast := by
  rw [List.dropLast_eq_take, List.dropLast_eq_take, q.len]
  exact q.takeA _
theorem ds_app (i : Nat) (h : PE X e (tBM X.K "list" rAppend (tVar i) (tCons (lE T X.K ta) tNil))) (hs : swapsWith e none pos.line X.env = pure false := by rfl) : DS T X (.Expr e pos) (yApp i ta) :=
  ⟨PS.imp (ps_expr h hs) fun De σ H ⟨en, ρ, dk, HS, P, x⟩ => by
    obtain ⟨ds, hd, q⟩ := x.does
    obtain ⟨p, vs, h0, h1, m, n, h2, qv, f⟩ := x.env.ownAt hd
    refine ⟨_, h1, .inl ⟨rfl, vs, SqL.of h2⟩, en, ρ, dk, HS, _, x.env, q, fun d v HS1 H1 pd s r => ?_⟩
    have E1 := x.env.stp s
    obtain ⟨p', vs', h0', h1', m', n', h2', qv', f'⟩ := E1.ownAt hd
    rw [h1] at h1'
    cases h1'
    refine ⟨p, vs', v, rfl, rfl, h2', by rw [qv'.len]; exact pd.1, ?_⟩
    exact x.nx _ dk HS1 _ σ pd.2 (E1.mut h0' h1 m' n' f' (qv'.app (.cons r .nil)))⟩
theorem ds_ext (i : Nat) (h : PE X e (tBM X.K "list" rExtend (tVar i) (tCons (lR T X.K ta) tNil))) (hs : swapsWith e none pos.line X.env = pure false := by rfl) : DS T X (.Expr e pos) (yExt i ta) :=
  ⟨PS.imp (ps_expr h hs) fun De σ H ⟨en, ρ, dk, HS, P, x⟩ => by
    obtain ⟨ds, hd, q⟩ := x.does
    obtain ⟨p, vs, h0, h1, m, n, h2, qv, f⟩ := x.env.ownAt hd
    refine ⟨_, h1, .inl ⟨rfl, vs, SqL.of h2⟩, en, ρ, dk, HS, _, x.env, q, fun d v HS1 H1 pd s r => ?_⟩
    have E1 := x.env.stp s
    obtain ⟨p', vs', h0', h1', m', n', h2', qv', f'⟩ := E1.ownAt hd
    rw [h1] at h1'
    cases h1'
    obtain ⟨es, rfl, c, pd⟩ := pd
    obtain ⟨b, us, rfl, hb, qb⟩ := r.lst s.wd
    refine ⟨p, b, vs', us, rfl, rfl, h2', hb, by rw [qv'.len, qb.len]; exact c, ?_⟩
    exact x.nx _ dk HS1 _ σ pd (E1.mut h0' h1 m' n' f' (qv'.app qb))⟩
theorem ds_pop (j i : Nat) {x : Str} {pos' : Pos} (hN : X.N.Nodup) (h : PE X e (tBM0 X.K "list" rPop (tVar i))) (hi : X.N[j]? = some x := by rfl) (hx : Loc X.env.scope x := by first | exact .inl rfl | exact .inr rfl) (hs : swapsWith e (some (.Name x pos')) pos.line X.env = pure false := by rfl)
    (hf : X.fn x = true ∨ X.env.scope.names.lookup x = some .local := by first | exact .inl rfl | exact .inr rfl) : DS T X (.Assign [.Name x pos'] e pos) (yPop j i) :=
  ⟨PS.imp (ps_set hN hi hx h hs hf) fun De σ H ⟨en, ρ, dk, HS, P, x⟩ => by
    obtain ⟨ds, d, hd, hl, q⟩ := x.does
    obtain ⟨p, vs, h0, h1, m, n, h2, qv, f⟩ := x.env.ownAt hd
    obtain ⟨v, hv, r⟩ := pop_get qv hl
    refine ⟨_, h1, .inl ⟨rfl, vs, SqL.of h2⟩, p, vs, v, rfl, rfl, h2, hv, ?_⟩
    exact x.nx _ dk HS _ _ q ((x.env.mut h0 h1 m n f qv.dropL).set r)⟩
theorem ds_popD (i : Nat) (h : PE X e (tBM0 X.K "list" rPop (tVar i))) (hs : swapsWith e none pos.line X.env = pure false := by rfl) : DS T X (.Expr e pos) (yPopD i) :=
  ⟨PS.imp (ps_expr h hs) fun De σ H ⟨en, ρ, dk, HS, P, x⟩ => by
    obtain ⟨ds, hd, hl, q⟩ := x.does
    obtain ⟨p, vs, h0, h1, m, n, h2, qv, f⟩ := x.env.ownAt hd
    obtain ⟨v, hv, r⟩ := pop_get qv (List.getLast?_eq_getLast hl)
    refine ⟨_, h1, .inl ⟨rfl, vs, SqL.of h2⟩, p, vs, v, rfl, rfl, h2, hv, ?_⟩
    exact x.nx _ dk HS _ _ q (x.env.mut h0 h1 m n f qv.dropL)⟩
theorem ds_popAt (j i : Nat) {x : Str} {pos' : Pos} (hN : X.N.Nodup) (h : PE X e (tBM X.K "list" rPopAt (tVar i) (tCons (lE T X.K ta) tNil))) (hi : X.N[j]? = some x := by rfl) (hx : Loc X.env.scope x := by first | exact .inl rfl | exact .inr rfl) (hs : swapsWith e (some (.Name x pos')) pos.line X.env = pure false := by rfl)
    (hf : X.fn x = true ∨ X.env.scope.names.lookup x = some .local := by first | exact .inl rfl | exact .inr rfl) : DS T X (.Assign [.Name x pos'] e pos) (yPopAt j i ta) :=
  ⟨PS.imp (ps_set hN hi hx h hs hf) fun De σ H ⟨en, ρ, dk, HS, P, x⟩ => by
    obtain ⟨ds, hd, q⟩ := x.does
    obtain ⟨p, vs, h0, h1, m, n, h2, qv, f⟩ := x.env.ownAt hd
    refine ⟨_, h1, .inl ⟨rfl, vs, SqL.of h2⟩, en, ρ, dk, HS, _, x.env, q, fun d v HS1 H1 pd s r => ?_⟩
    have E1 := x.env.stp s
    obtain ⟨p', vs', h0', h1', m', n', h2', qv', f'⟩ := E1.ownAt hd
    rw [h1] at h1'
    cases h1'
    obtain ⟨k, mm, dd, rfl, ⟨c1, c2⟩, hix, hget, pd⟩ := pd
    cases r
    obtain ⟨y, hy, ry⟩ := qv'.getD hget
    refine ⟨p, vs', k, mm, y, rfl, rfl, h2', c1, c2, by rw [qv'.len]; exact (ixN_seq hix).1, hy, ?_⟩
    exact x.nx _ dk HS1 _ _ pd ((E1.mut h0' h1 m' n' f' (qv'.eraseA mm)).set ry)⟩
theorem ds_appPopAt (j i : Nat) (h : PE X e (tBM X.K "list" rAppend (tVar j) (tCons (tBM X.K "list" rPopAt (tVar i) (tCons (lE T X.K ta) tNil)) tNil))) (hs : swapsWith e none pos.line X.env = pure false := by rfl) : DS T X (.Expr e pos) (yAppPopAt j i ta) :=
  ⟨PS.imp (ps_expr h hs) fun De σ H ⟨en, ρ, dk, HS, P, x⟩ => by
    obtain ⟨ds, es, hd, hij, he, q⟩ := x.does
    obtain ⟨p, vs, h0, h1, m, n, h2, qv, f⟩ := x.env.ownAt hd
    obtain ⟨pj, us, g0, g1, gm, gn, g2, gq, gf⟩ := x.env.ownAt he
    refine ⟨_, g1, .inl ⟨rfl, us, SqL.of g2⟩, _, h1, .inl ⟨rfl, vs, SqL.of h2⟩, en, ρ, dk, HS, _, x.env, q, fun d v HS1 H1 pd s r => ?_⟩
    have E1 := x.env.stp s
    obtain ⟨p', vs', h0', h1', m', n', h2', qv', f'⟩ := E1.ownAt hd
    rw [h1] at h1'
    cases h1'
    obtain ⟨k, mm, dd, rfl, ⟨c1, c2⟩, hix, hget, cz, pd⟩ := pd
    cases r
    obtain ⟨y, hy, ry⟩ := qv'.getD hget
    refine ⟨p, vs', k, mm, y, rfl, rfl, h2', c1, c2, by rw [qv'.len]; exact (ixN_seq hix).1, hy, ?_⟩
    have E2 := E1.mut h0' h1 m' n' f' (qv'.eraseA mm)
    obtain ⟨p2, us2, k0, k1, km, kn, k2, kq, kf⟩ := E2.ownAt (show sl (ρ.set i (.own (ds.eraseIdx mm))) j = .own es by rw [sl_stay hij]; exact he)
    rw [g1] at k1
    cases k1
    refine ⟨pj, us2, y, rfl, rfl, k2, by rw [kq.len]; exact cz, ?_⟩
    exact x.nx _ dk HS1 _ _ pd (E2.mut k0 g1 km kn kf (kq.app (.cons ry .nil)))⟩
theorem ds_put (i : Nat) {ix : Expr} {x1 : Str} {p1 p2 : Pos} (hv : DE T X e ta) (ho : PE X (.Name x1 p1) (tVar i)) (hi : DE T X ix tb)
    (ha : ∀ v, assign (.Subscript (.Name x1 p1) ix p2) X.env v = (do
      let ov ← holding [v] (eval (.Name x1 p1) X.env)
      let iv ← holding [v, ov] (eval ix X.env)
      standAt p2
      holding [v, ov, iv] (setItem ov iv v)
      release [v, ov, iv] []) := by intro _; rfl)
    (hs : swapsWithSole [.Subscript (.Name x1 p1) ix p2] e pos.line X.env = pure false := by rfl) (hw : swappedStores [.Subscript (.Name x1 p1) ix p2] e X.env = pure none := by rfl)
    (h1 : (assignEach [.Subscript (.Name x1 p1) ix p2] X.env).map (·.2) = [assign (.Subscript (.Name x1 p1) ix p2) X.env] := by rfl) : DS T X (.Assign [.Subscript (.Name x1 p1) ix p2] e pos) (yPut i ta tb) :=
  ⟨PS.imp (ps_asg hv.pe (pg_sub ho hi.pe set_list ha) hs hw h1) fun De σ H ⟨en, ρ, dk, HS, P, x⟩ => by
    obtain ⟨ds, hd, q⟩ := x.does
    refine ⟨en, ρ, dk, HS, _, x.env, q, fun d v HS1 H1 pd s r => ?_⟩
    have E1 := x.env.stp s
    obtain ⟨p, vs, h0, h1, m, n, h2, qv, f⟩ := E1.ownAt hd
    refine ⟨_, h1, en, ρ, dk, HS1, _, E1, pd, fun d2 v2 HS2 H2 pd2 s2 r2 => ?_⟩
    have E2 := E1.stp s2
    obtain ⟨p', vs', h0', h1', m', n', h2', qv', f'⟩ := E2.ownAt hd
    rw [h1] at h1'
    cases h1'
    obtain ⟨k, mm, rfl, hix, pd2⟩ := pd2
    cases r2
    refine ⟨p, vs', k, mm, rfl, rfl, h2', by rw [qv'.len]; exact hix, ?_⟩
    exact x.nx _ dk HS2 _ _ pd2 (E2.mut h0' h1 m' n' f' (qv'.setA (dp_same s2.sh _ _ r) mm))⟩
end

/-! ### what loops walk -/
/-- J walks the data ds -/
def ItOk (T : DKd) (K : PySem.W.Frag) (J : It) (HS : Hp) (ds : List D) : Prop :=
  ∀ dk HS' H', Same HS HS' → Wd T dk HS' H' → (∀ (i : Nat) (d : D), ds[i]? = some d → J.go i H' ∧ ∀ x H'', J.yld i H' x H'' → ∃ HS'', Stp T dk HS' H' HS'' H'' ∧ Rv K HS'' x d) ∧ J.stop ds.length H'
def lIt (T : DKd) (K : PySem.W.Frag) (t : DT (List D)) : TI := fun σ H R => ∃ en ρ dk HS P, EnvR T K en ρ dk HS H σ ∧ t ρ P ∧ ∀ ds J HS1 H1, P ds → Stp T dk HS H HS1 H1 → ItOk T K J HS1 ds → R J H1
structure DIt (T : DKd) (X : Cx) (tg e : Expr) (t : DT (List D)) : Prop where
  pi : PI X tg e (lIt T X.K t)
theorem PI.imp {X : Cx} {tg e : Expr} {t t' : TI} (h : PI X tg e t) (m : ∀ σ H Q, t' σ H Q → t σ H Q) : PI X tg e t' := ⟨fun pins s σ H R I q => h.run pins s σ H R I (m σ H R q)⟩
def xItems (ta : DT D) : DT (List D) := fun ρ P => ta ρ fun d => ∃ ds, itemsOf d = some ds ∧ P ds
def xItL (ta : DT D) : DT (List D) := fun ρ P => ta ρ fun d => ∃ ds, d = .list ds ∧ P ds
def xItT (ta : DT D) : DT (List D) := fun ρ P => ta ρ fun d => ∃ ds, d = .tuple ds ∧ P ds
def rangeD (lo : Int) (n : Nat) : List D := (List.range n).map fun (i : Nat) => .int (lo + (i : Int))
def xRg1 (ta : DT D) : DT (List D) := fun ρ P => ta ρ fun d => ∃ j, d = .int j ∧ -(2 ^ 62) ≤ j ∧ j < 2 ^ 62 ∧ P (rangeD 0 j.toNat)
def xRg2 (ta tb : DT D) : DT (List D) := fun ρ P => ta ρ fun d => tb ρ fun d2 => ∃ i j, d = .int i ∧ d2 = .int j ∧ (-(2 ^ 62) ≤ i ∧ i < 2 ^ 62 ∧ -(2 ^ 62) ≤ j ∧ j < 2 ^ 62) ∧ P (rangeD i (j - i).toNat)
section
variable {T : DKd} {X : Cx} {K : PySem.W.Frag} {dk : DkA} {HS H : Hp} {tg e e2 : Expr} {ta tb : DT D} {pos p : Pos}
theorem it_list {a : Addr} {vs : List V} {ds : List D} (h : HS a = some (.lst vs)) (q : Rvs K HS vs ds) : ItOk T K (Itl K a) HS ds := fun dk HS' H' sm w => by
  have h1 : SqL K H' a vs := SqL.of (w.sub _ _ (sm _ _ h))
  refine ⟨fun i d e => ?_, vs, h1, Nat.le_of_eq q.len⟩
  obtain ⟨v, hv, r⟩ := q.getD e
  refine ⟨⟨vs, v, h1, hv⟩, fun x H'' y => ?_⟩
  obtain ⟨rfl, y⟩ := y
  have ex := y vs h1
  rw [hv] at ex
  cases ex
  exact ⟨HS', Stp.refl w, dp_same sm _ _ r⟩
theorem it_tup {a : Addr} {vs : List V} {ds : List D} (h : SqT K HS a vs) (q : Rvs K HS vs ds) : ItOk T K (Itt K a) HS ds := fun dk HS' H' sm w => by
  have h1 : SqT K H' a vs := same_seqT w.sub (same_seqT sm h)
  refine ⟨fun i d e => ?_, vs, h1, Nat.le_of_eq q.len⟩
  obtain ⟨v, hv, r⟩ := q.getD e
  refine ⟨⟨vs, v, h1, hv⟩, fun x H'' y => ?_⟩
  obtain ⟨rfl, y⟩ := y
  have ex := y vs h1
  rw [hv] at ex
  cases ex
  exact ⟨HS', Stp.refl w, dp_same sm _ _ r⟩
theorem it_rng {lo : Int} {n : Nat} : ItOk T K (Itr lo n) HS (rangeD lo n) := fun dk HS' H' sm w => by
  refine ⟨fun i d e => ?_, by show n ≤ (rangeD lo n).length; unfold rangeD; simp⟩
  unfold rangeD at e
  rw [List.getElem?_map] at e
  by_cases hi : i < n
  · rw [List.getElem?_range hi] at e
    cases e
    refine ⟨hi, fun x H'' y => ?_⟩
    obtain ⟨rfl, rfl⟩ := y
    exact ⟨HS', Stp.refl w, .int _⟩
  · rw [List.getElem?_eq_none (by simpa using hi)] at e
    cases e
/-- over a list, a tuple: which one it is must be said -/
theorem dit_list (he : DE T X e ta) : DIt T X tg e (xItL ta) := ⟨PI.imp (pi_list he.pe) fun σ H R h => by
  obtain ⟨en, ρ, dk, HS, P, E, q, k⟩ := h
  refine ⟨en, ρ, dk, HS, _, E, q, fun d v HS1 H1 p s r => ?_⟩
  obtain ⟨ds, rfl, p⟩ := p
  cases r with
  | lst h q => exact ⟨_, rfl, ⟨_, SqL.of (s.wd.sub _ _ h)⟩, k ds _ HS1 H1 p s (it_list h q)⟩⟩
theorem dit_tup (he : DE T X e ta) : DIt T X tg e (xItT ta) := ⟨PI.imp (pi_tup he.pe) fun σ H R h => by
  obtain ⟨en, ρ, dk, HS, P, E, q, k⟩ := h
  refine ⟨en, ρ, dk, HS, _, E, q, fun d v HS1 H1 p s r => ?_⟩
  obtain ⟨ds, rfl, p⟩ := p
  cases r with
  | tup h q => exact ⟨_, rfl, ⟨_, SqT.of (s.wd.sub _ _ h)⟩, k ds _ HS1 H1 p s (it_tup (SqT.of h) q)⟩⟩
theorem dit_rg1 (hg : Gl X "range") (hm : X.mg "range" = none) (he : DE T X e ta) (hs : starEach [e] X.env = [(false, eval e X.env)] := by rfl) (hs2 : starEach [e] X.env = (false, eval e X.env) :: starEach [] X.env := by rfl) : DIt T X tg (.Call (.Name "range" p) [e] [] pos) (xRg1 ta) :=
  ⟨PI.imp (pi_range1 hg hm (pa_cons he.pe pa_nil hs2) hs) fun σ H R h => by
    obtain ⟨en, ρ, dk, HS, P, E, q, k⟩ := h
    refine ⟨en, ρ, dk, HS, _, E, q, fun d v HS1 H1 p s r => ?_⟩
    obtain ⟨j, rfl, c1, c2, p⟩ := p
    cases r
    exact ⟨j, rfl, c1, c2, k _ _ HS1 H1 p s it_rng⟩⟩
theorem dit_rg2 (hg : Gl X "range") (hm : X.mg "range" = none) (he : DE T X e ta) (he2 : DE T X e2 tb) (hs : starEach [e, e2] X.env = [(false, eval e X.env), (false, eval e2 X.env)] := by rfl) (hs2 : starEach [e2] X.env = [(false, eval e2 X.env)] := by rfl)
    (hs3 : starEach [e, e2] X.env = (false, eval e X.env) :: starEach [e2] X.env := by rfl) (hs4 : starEach [e2] X.env = (false, eval e2 X.env) :: starEach [] X.env := by rfl) : DIt T X tg (.Call (.Name "range" p) [e, e2] [] pos) (xRg2 ta tb) :=
  ⟨PI.imp (pi_range2 hg hm (pa_cons he.pe (pa_cons he2.pe pa_nil hs4) hs3) hs hs2) fun σ H R h => by
    obtain ⟨en, ρ, dk, HS, P, E, q, k⟩ := h
    refine ⟨en, ρ, dk, HS, _, E, q, fun d v HS1 H1 p s r => ⟨en, ρ, dk, HS1, _, E.stp s, p, fun d2 v2 HS2 H2 p2 s2 r2 => ?_⟩⟩
    obtain ⟨i, j, rfl, rfl, c, p2⟩ := p2
    cases r
    cases r2
    exact ⟨i, j, rfl, c, k _ _ HS2 H2 p2 (s.trans s2) it_rng⟩⟩
end

/-! ### targets -/
abbrev DTg := D → Envd → (Envd → Prop) → Prop
abbrev DTgs := List D → Envd → (Envd → Prop) → Prop
/-- at most the slots ks changed -/
def Chg (ks : List Nat) (σ σ1 : L2.St) : Prop := σ1.length = σ.length ∧ ∀ j, j ∉ ks → σ1[j]? = σ[j]?
theorem Chg.refl (ks : List Nat) (σ : L2.St) : Chg ks σ σ := ⟨rfl, fun _ _ => rfl⟩
def lG (T : DKd) (K : PySem.W.Frag) (ks : List Nat) (g : DTg) : TG := fun v σ H Q => ∃ en ρ dk HS d P, EnvR T K en ρ dk HS H σ ∧ Rv K HS v d ∧ g d ρ P ∧ ∀ ρ1 σ1, P ρ1 → Chg ks σ σ1 → EnvR T K en ρ1 dk HS H σ1 → Q σ1 H
def lGs (T : DKd) (K : PySem.W.Frag) (ks : List Nat) (g : DTgs) : TGs := fun vs σ H Q => ∃ en ρ dk HS ds P, EnvR T K en ρ dk HS H σ ∧ Rvs K HS vs ds ∧ g ds ρ P ∧ ∀ ρ1 σ1, P ρ1 → Chg ks σ σ1 → EnvR T K en ρ1 dk HS H σ1 → Q σ1 H
structure DG (T : DKd) (X : Cx) (e : Expr) (ks : List Nat) (g : DTg) : Prop where
  pg : PG X e (lG T X.K ks g)
structure DGs (T : DKd) (X : Cx) (es : List Expr) (ks : List Nat) (g : DTgs) : Prop where
  pg : PGs X es (lGs T X.K ks g)
theorem PG.imp {X : Cx} {e : Expr} {t t' : TG} (h : PG X e t) (m : ∀ v σ H Q, t' v σ H Q → t v σ H Q) : PG X e t' := ⟨fun pins s σ H v u Q I r q => h.run pins s σ H v u Q I r (m v σ H Q q)⟩
theorem PGs.imp {X : Cx} {e : List Expr} {t t' : TGs} (h : PGs X e t) (m : ∀ v σ H Q, t' v σ H Q → t v σ H Q) : PGs X e t' := ⟨fun pins s σ H v u Q I r q => h.run pins s σ H v u Q I r (m v σ H Q q)⟩
def gV (i : Nat) : DTg := fun d ρ P => P (ρ.set i (.val d))
def gT (g : DTgs) : DTg := fun d ρ P => ∃ ds, d = .tuple ds ∧ g ds ρ P
def gNil' : DTgs := fun ds ρ P => ds = [] ∧ P ρ
def gCons' (g : DTg) (gs : DTgs) : DTgs := fun ds ρ P => ∃ d r, ds = d :: r ∧ g d ρ fun ρ1 => gs r ρ1 P
def glen (g : DTgs) (n : Nat) : Prop := ∀ ds ρ P, g ds ρ P → ds.length = n ∧ ∃ ρ1, P ρ1
def gex (g : DTg) : Prop := ∀ d ρ P, g d ρ P → ∃ ρ1, P ρ1
section
variable {T : DKd} {X : Cx} {e : Expr} {es : List Expr} {g : DTg} {gs : DTgs} {pos : Pos} {ks ks2 : List Nat}
theorem dg_name (i : Nat) {x : Str} (hN : X.N.Nodup) (hi : X.N[i]? = some x := by rfl) (hx : Loc X.env.scope x := by first | exact .inl rfl | exact .inr rfl) (hf : X.fn x = true ∨ X.env.scope.names.lookup x = some .local := by first | exact .inl rfl | exact .inr rfl) : DG T X (.Name x pos) [i] (gV i) :=
  ⟨PG.imp (pg_name hN hi hx hf) fun v σ H Q ⟨en, ρ, dk, HS, d, P, E, r, q, k⟩ => k _ _ q ⟨by rw [List.length_set], fun j hj => by rw [List.getElem?_set_ne (fun z => hj (by simp [z]))]⟩ (E.set r)⟩
theorem dgs_nil : DGs T X [] [] gNil' := ⟨PGs.imp pgs_nil fun vs σ H Q ⟨en, ρ, dk, HS, ds, P, E, r, ⟨q1, q2⟩, k⟩ => by
  subst q1
  exact ⟨r.nilL, k _ _ q2 (Chg.refl _ _) E⟩⟩
theorem dgs_cons (h1 : DG T X e ks g) (h2 : DGs T X es ks2 gs) (hs : (assignEach (e :: es) X.env).map (·.2) = assign e X.env :: (assignEach es X.env).map (·.2) := by rfl) : DGs T X (e :: es) (ks ++ ks2) (gCons' g gs) :=
  ⟨PGs.imp (pgs_cons h1.pg h2.pg hs) fun vs σ H Q ⟨en, ρ, dk, HS, ds, P, E, r, q, k⟩ => by
    obtain ⟨d, ds', rfl, q⟩ := q
    cases r with
    | cons r rr => exact ⟨_, _, rfl, en, ρ, dk, HS, d, _, E, r, q, fun ρ1 σ1 p c1 E1 => ⟨en, ρ1, dk, HS, ds', P, E1, rr, p, fun ρ2 σ2 p2 c2 E2 => k ρ2 σ2 p2 ⟨c2.1.trans c1.1, fun j hj => by
        rw [List.mem_append, not_or] at hj
        rw [c2.2 j hj.2, c1.2 j hj.1]⟩ E2⟩⟩⟩
theorem dg_tup {k : Nat} {n : Nat} (hc : X.calm = true) (h : DGs T X es ks gs) (hl : glen gs n) (hn : (assignEach es X.env).length = n := by rfl) (hst : (assignEach es X.env).findIdx? (·.1) = none := by rfl) : DG T X (.Tuple es k pos) ks (gT gs) :=
  ⟨PG.imp (pg_tup hc h.pg hn hst) fun v σ H Q ⟨en, ρ, dk, HS, d, P, E, r, q, k⟩ => by
    obtain ⟨ds, rfl, q⟩ := q
    cases r with
    | tup h1 r => exact ⟨_, _, rfl, SqT.of (E.wd.sub _ _ h1), by rw [r.len]; exact (hl _ _ _ q).1, en, ρ, dk, HS, ds, P, E, r, q, k⟩⟩
theorem gx_name (i : Nat) : gex (gV i) := fun _ _ _ h => ⟨_, h⟩
theorem gl_nil : glen gNil' 0 := fun _ _ _ h => ⟨by rw [h.1]; rfl, _, h.2⟩
theorem gl_cons {n : Nat} (h1 : gex g) (h : glen gs n) : glen (gCons' g gs) (n + 1) := fun _ _ _ ⟨_, _, e, q⟩ => by
  obtain ⟨ρ1, q1⟩ := h1 _ _ _ q
  obtain ⟨e2, z⟩ := h _ _ _ q1
  exact ⟨by rw [e, List.length_cons, e2], z⟩
theorem gx_tup {n : Nat} (h : glen gs n) : gex (gT gs) := fun _ _ _ ⟨_, _, q⟩ => (h _ _ _ q).2
/-- a, b = e -/
def yAsg (ta : DT D) (g : DTg) : DTS := fun P ρ => ta ρ fun d => g d ρ P.nx
theorem ds_asg {tg : Expr} {ta : DT D} (he : DE T X e ta) (hg : DG T X tg ks g) (hs : swapsWithSole [tg] e pos.line X.env = pure false := by rfl) (hw : swappedStores [tg] e X.env = pure none := by rfl)
    (h1 : (assignEach [tg] X.env).map (·.2) = [assign tg X.env] := by rfl) : DS T X (.Assign [tg] e pos) (yAsg ta g) :=
  ⟨PS.imp (ps_asg he.pe hg.pg hs hw h1) fun De σ H ⟨en, ρ, dk, HS, P, x⟩ => ⟨en, ρ, dk, HS, _, x.env, x.does, fun d v HS1 H1 p s r => ⟨en, ρ, dk, HS1, d, P.nx, x.env.stp s, r, p, fun ρ1 σ1 h _ E => x.nx _ _ _ _ _ h E⟩⟩⟩
end

/-! ### several names at once -/
/-- what a new value may be at a name -/
def NewR (K : PySem.W.Frag) (dk : DkA) (HS H H1 : Hp) (v : V) : Slot → Prop
  | .val d => Rv K HS v d
  | .own ds => FrL K dk HS H H1 v ds
  | .dct t kvs => FrD K dk HS H H1 v t kvs
  | _ => False
def lX (T : DKd) (K : PySem.W.Frag) (t : DT Slot) : TE := fun σ H Q => ∃ en ρ dk HS P, EnvR T K en ρ dk HS H σ ∧ t ρ P ∧ ∀ s v HS1 H1, P s → Stp T dk HS H HS1 H1 → NewR K dk HS1 H H1 v s → Q v H1
structure DX (T : DKd) (X : Cx) (e : Expr) (t : DT Slot) : Prop where
  pe : PE X e (lX T X.K t)
def xVal (ta : DT D) : DT Slot := fun ρ P => ta ρ fun d => P (.val d)
def xOwn (ta : DT (List D)) : DT Slot := fun ρ P => ta ρ fun d => P (.own d)
def setS : List Nat → List Slot → Envd → Envd
  | i :: is, s :: ss, ρ => setS is ss (ρ.set i s)
  | _, _, ρ => ρ
def setV : List Nat → List V → L2.St → L2.St
  | i :: is, v :: vs, σ => setV is vs (σ.set i (some v))
  | _, _, σ => σ
/-- new values that may stand at names -/
def News' (T : DKd) (K : PySem.W.Frag) (dk : DkA) (HS H HS1 H1 : Hp) (vs : List V) (ss : List Slot) : Prop :=
  vs.length = ss.length ∧ ∀ en ρ σ (is : List Nat), EnvR T K en ρ dk HS H σ → EnvR T K en (setS is ss ρ) dk HS1 H1 (setV is vs σ)
def lXs (T : DKd) (K : PySem.W.Frag) (t : DT (List Slot)) : TA := fun σ H Q => ∃ en ρ dk HS P, EnvR T K en ρ dk HS H σ ∧ t ρ P ∧ ∀ ss vs HS1 H1, P ss → Stp T dk HS H HS1 H1 → News' T K dk HS H HS1 H1 vs ss → Q vs H1
structure DXs (T : DKd) (X : Cx) (es : List Expr) (t : DT (List Slot)) : Prop where
  pa : PA X es (lXs T X.K t)
section
variable {T : DKd} {K : PySem.W.Frag} {en : Ent} {ρ : Envd} {dk : DkA} {HS H HS1 H1 : Hp} {σ : L2.St} {i : Nat}
theorem EnvR.setNew (E : EnvR T K en ρ dk HS H σ) (s : Stp T dk HS H HS1 H1) {v : V} {sx : Slot} (r : NewR K dk HS1 H H1 v sx) : EnvR T K en (ρ.set i sx) dk HS1 H1 (σ.set i (some v)) := by
  cases sx with
  | val d => exact (E.stp s).set r
  | own ds => exact E.setOwn s r
  | nil => exact r.elim
  | deck => exact r.elim
  | dct u kvs => exact E.setDct s r
theorem setS_len (is : List Nat) : ∀ (ss : List Slot) (ρ : Envd), (setS is ss ρ).length = ρ.length := by
  induction is with
  | nil => intro ss ρ; rfl
  | cons i is ih =>
    intro ss ρ
    cases ss with
    | nil => rfl
    | cons s ss => exact (ih ss _).trans List.length_set
end
section
variable {T : DKd} {X : Cx} {e : Expr} {es : List Expr} {ta : DT D} {tl : DT (List D)} {tx : DT Slot} {ts : DT (List Slot)} {pos : Pos}
theorem DE.dx (h : DE T X e ta) : DX T X e (xVal ta) := ⟨PE.imp h.pe fun σ H Q ⟨en, ρ, dk, HS, P, E, q, k⟩ => ⟨en, ρ, dk, HS, _, E, q, fun d v HS1 H1 p s r => k (.val d) v HS1 H1 p s r⟩⟩
theorem DF.dx (h : DF T X e tl) : DX T X e (xOwn tl) := ⟨PE.imp h.pe fun σ H Q ⟨en, ρ, dk, HS, P, E, q, k⟩ => ⟨en, ρ, dk, HS, _, E, q, fun d v HS1 H1 p s r => k (.own d) v HS1 H1 p s r⟩⟩
theorem dxs_nil : DXs T X [] xNil := ⟨PA.imp pa_nil fun σ H Q ⟨en, ρ, dk, HS, P, E, q, k⟩ => k [] [] HS H q (Stp.refl E.wd) ⟨rfl, fun en ρ σ is E => by cases is <;> exact E⟩⟩
theorem dxs_cons (ha : DX T X e tx) (hr : DXs T X es ts) (hs : starEach (e :: es) X.env = (false, eval e X.env) :: starEach es X.env := by rfl) : DXs T X (e :: es) (xCons tx ts) :=
  ⟨PA.imp (pa_cons ha.pe hr.pa hs) fun σ H Q h => by
    obtain ⟨en, ρ, dk, HS, P, E, q, k⟩ := h
    refine ⟨en, ρ, dk, HS, _, E, q, fun sx v HS1 H1 p s r => ⟨en, ρ, dk, HS1, _, E.stp s, p, fun ss vs HS2 H2 p2 s2 r2 => ?_⟩⟩
    refine k (sx :: ss) (v :: vs) HS2 H2 p2 (s.trans s2) ⟨congrArg (· + 1) r2.1, fun en' ρ' σ' is E' => ?_⟩
    cases is with
    | nil => exact (E'.stp s).stp s2
    | cons i is => exact r2.2 en' _ _ is (E'.setNew s r)⟩
/-- a, b = x, y with plain names (no tuple is made) -/
def yPar (is : List Nat) (t : DT (List Slot)) : DTS := fun P ρ => t ρ fun ss => ss.length = is.length ∧ P.nx (setS is ss ρ)
theorem ds_par2 (i j : Nat) {x y : Str} {a b : Expr} {px py pt : Pos} {kt k2 pt2} (hN : X.N.Nodup) (ha : DXs T X [a, b] ts) (hc : X.calm = true := by rfl) (hi : X.N[i]? = some x := by rfl) (hj : X.N[j]? = some y := by rfl) (hij : i ≠ j := by decide)
    (hx : X.env.scope.names.lookup x = some .local := by rfl) (hy : X.env.scope.names.lookup y = some .local := by rfl)
    (hw : swappedStores [.Tuple [.Name x px, .Name y py] kt pt] (.Tuple [a, b] k2 pt2) X.env = pure (some [x, y]) := by rfl)
    (hs : swapsWithSole [.Tuple [.Name x px, .Name y py] kt pt] (.Tuple [a, b] k2 pt2) pos.line X.env = pure false := by rfl) :
    DS T X (.Assign [.Tuple [.Name x px, .Name y py] kt pt] (.Tuple [a, b] k2 pt2) pos) (yPar [i, j] ts) :=
  ⟨PS.imp (ps_par hc hN hi hj hij hx hy ha.pa hw hs) fun De σ H ⟨en, ρ, dk, HS, P, x⟩ => ⟨en, ρ, dk, HS, _, x.env, x.does, fun ss vs HS1 H1 p s r => by
    obtain ⟨l, p⟩ := p
    have lv := r.1.trans l
    match vs, lv with
    | [v1, v2], _ => exact ⟨v1, v2, rfl, x.nx _ _ _ _ _ p (r.2 en ρ σ [i, j] x.env)⟩⟩⟩
theorem ds_par3 (i j l : Nat) {x y z : Str} {a b c : Expr} {px py pz pt : Pos} {kt k2 pt2} (hN : X.N.Nodup) (ha : DXs T X [a, b, c] ts) (hc : X.calm = true := by rfl) (hi : X.N[i]? = some x := by rfl) (hj : X.N[j]? = some y := by rfl) (hl : X.N[l]? = some z := by rfl) (hij : i ≠ j := by decide) (hil : i ≠ l := by decide) (hjl : j ≠ l := by decide)
    (hx : X.env.scope.names.lookup x = some .local := by rfl) (hy : X.env.scope.names.lookup y = some .local := by rfl) (hz : X.env.scope.names.lookup z = some .local := by rfl)
    (hw : swappedStores [.Tuple [.Name x px, .Name y py, .Name z pz] kt pt] (.Tuple [a, b, c] k2 pt2) X.env = pure (some [x, y, z]) := by rfl)
    (hs : swapsWithSole [.Tuple [.Name x px, .Name y py, .Name z pz] kt pt] (.Tuple [a, b, c] k2 pt2) pos.line X.env = pure false := by rfl) :
    DS T X (.Assign [.Tuple [.Name x px, .Name y py, .Name z pz] kt pt] (.Tuple [a, b, c] k2 pt2) pos) (yPar [i, j, l] ts) :=
  ⟨PS.imp (L2.ps_par3 hc hN hi hj hl hij hil hjl hx hy hz ha.pa hw hs) fun De σ H ⟨en, ρ, dk, HS, P, x⟩ => ⟨en, ρ, dk, HS, _, x.env, x.does, fun ss vs HS1 H1 p s r => by
    obtain ⟨l', p⟩ := p
    have lv := r.1.trans l'
    match vs, lv with
    | [v1, v2, v3], _ => exact ⟨v1, v2, v3, rfl, x.nx _ _ _ _ _ p (r.2 en ρ σ [i, j, l] x.env)⟩⟩⟩
/-- names stored from the left -/
def gNms (is : List Nat) : TGs := fun vs σ H Q => vs.length = is.length ∧ Q (setV is vs σ) H
structure DNs (X : Cx) (es : List Expr) (is : List Nat) : Prop where
  pg : PGs X es (gNms is)
theorem dns_nil : DNs X [] [] := ⟨PGs.imp pgs_nil fun vs σ H Q ⟨l, q⟩ => by
  have e : vs = [] := List.length_eq_zero_iff.mp l
  subst e
  exact ⟨rfl, q⟩⟩
theorem dns_cons (i : Nat) {is : List Nat} {x : Str} {px : Pos} (hN : X.N.Nodup) (h2 : DNs X es is) (hi : X.N[i]? = some x := by rfl) (hx : Loc X.env.scope x := by first | exact .inl rfl | exact .inr rfl) (hf : X.fn x = true ∨ X.env.scope.names.lookup x = some .local := by first | exact .inl rfl | exact .inr rfl)
    (hs : (assignEach (.Name x px :: es) X.env).map (·.2) = assign (.Name x px) X.env :: (assignEach es X.env).map (·.2) := by rfl) : DNs X (.Name x px :: es) (i :: is) :=
  ⟨PGs.imp (pgs_cons (pg_name hN hi hx hf) h2.pg hs) fun vs σ H Q ⟨l, q⟩ => by
    match vs, l, q with
    | v :: vs, l, q => exact ⟨v, vs, rfl, Nat.succ.inj l, q⟩⟩
/-- a, b = x, y by way of a tuple -/
theorem ds_parT {is : List Nat} {tgs : List Expr} {k k2 : Nat} {pt pt2 : Pos} (ha : DXs T X es ts) (hg : DNs X tgs is) (hl : is.length ≤ sizeLine := by decide) (hc : X.calm = true := by rfl) (hn : (assignEach tgs X.env).length = is.length := by rfl) (hst : (assignEach tgs X.env).findIdx? (·.1) = none := by rfl)
    (hs : swapsWithSole [.Tuple tgs k pt] (.Tuple es k2 pt2) pos.line X.env = pure false := by rfl) (hw : swappedStores [.Tuple tgs k pt] (.Tuple es k2 pt2) X.env = pure none := by rfl)
    (h1 : (assignEach [.Tuple tgs k pt] X.env).map (·.2) = [assign (.Tuple tgs k pt) X.env] := by rfl) : DS T X (.Assign [.Tuple tgs k pt] (.Tuple es k2 pt2) pos) (yPar is ts) :=
  ⟨PS.imp (ps_asg (pe_tup ha.pa) (pg_tup hc hg.pg hn hst) hs hw h1) fun De σ H ⟨en, ρ, dk, HS, P, x⟩ => ⟨en, ρ, dk, HS, _, x.env, x.does, fun ss vs HS1 H1 p s r => by
    obtain ⟨l, p⟩ := p
    have lv := r.1.trans l
    refine ⟨by rw [lv]; exact hl, fun a ha => ?_⟩
    obtain ⟨s2, _, _⟩ := s.wd.layOwn (o := .tup vs) ha
    refine ⟨a, vs, rfl, SqT.of upd_same, lv, lv, ?_⟩
    exact x.nx _ _ _ _ _ p ((r.2 en ρ σ is x.env).stp s2)⟩⟩
end
end DL

namespace DL
open PySem PySem.Spec PyProof.Rows L2

/-! ### loops -/
def forL (g : DTg) (b : DTS) (P : EndsD) : List D → Envd → Prop
  | [], ρ => P.nx ρ
  | d :: ds, ρ => g d ρ fun ρ1 => b { P with nx := forL g b P ds, ct := forL g b P ds, bk := P.nx } ρ1
def yFor (it : DT (List D)) (g : DTg) (b : DTS) : DTS := fun P ρ => it ρ fun ds => forL g b P ds ρ
def whileN (c : DT Bool) (b : DTS) (P : EndsD) : Nat → Envd → Prop
  | 0, _ => False
  | n + 1, ρ => c ρ fun k => if k = true then b { P with nx := whileN c b P n, ct := whileN c b P n, bk := P.nx } ρ else P.nx ρ
def yWhile (c : DT Bool) (b : DTS) : DTS := fun P ρ => ∃ n, whileN c b P n ρ
section
variable {T : DKd} {X : Cx} {K : PySem.W.Frag} {en : Ent} {ρ ρ2 : Envd} {dk dk2 : DkA} {HS H HS1 H1 HS2 H2 : Hp} {σ σ2 : L2.St}
/-- what stands now is taken for the entry .. -/
theorem EnvR.rebase (E : EnvR T K en ρ dk HS H σ) : EnvR T K ⟨en.H, HS, dk⟩ ρ dk HS H σ where
  fin := ⟨E.fin.wd, Same.refl _, fun b o h n => by
    refine E.fin.fr b o h fun m => ?_
    rcases E.fin.dks with e | e
    · rw [e] at m; exact m
    · rw [← e] at m; exact n m, fun b h h' => absurd h h', .inr rfl, fun e b m => by
    have e' : dk = none := e
    rw [e'] at m; exact m.elim⟩
  len := E.len
  slots := E.slots
  dist := E.dist
  fresh := E.fresh
  d2 := E.d2
theorem Fin.unbase (F : Fin T en dk HS H) (F2 : Fin T ⟨en.H, HS, dk⟩ dk2 HS2 H2) : Fin T en dk2 HS2 H2 where
  wd := F2.wd
  sh := F.sh.trans F2.sh
  fr := fun b o h n => by
    by_cases m : dkMem dk b
    · rcases F.dks with e | e
      · have z := F.dkf e b m
        rw [h] at z; cases z
      · rw [e] at m; exact absurd m n
    · exact F2.fr b o h m
  new := fun b h h' => by
    by_cases q : HS b = none
    · exact F2.new b q h'
    · exact F.new b h q
  dks := by
    rcases F2.dks with e | e
    · have e' : dk = none := e
      rcases F.dks with z | z
      · exact .inl z
      · rw [e'] at z; exact .inl z.symm
    · have e' : dk2 = dk := e
      rcases F.dks with z | z
      · exact .inl z
      · exact .inr (e'.trans z)
  dkf := fun e b m => by
    rcases F2.dks with z | z
    · have e' : dk = none := z
      exact F2.dkf e' b m
    · have e' : dk2 = dk := z
      rw [e'] at m
      exact F.dkf e b m
theorem EnvR.unbase (F : Fin T en dk HS H) (E2 : EnvR T K ⟨en.H, HS, dk⟩ ρ2 dk2 HS2 H2 σ2) : EnvR T K en ρ2 dk2 HS2 H2 σ2 where
  fin := F.unbase E2.fin
  len := E2.len
  slots := E2.slots
  dist := E2.dist
  fresh := E2.fresh
  d2 := E2.d2
theorem ds_for {tg iter : Expr} {body : List Stmt} {it : DT (List D)} {ks : List Nat} {g : DTg} {b : DTS} {pos : Pos} (hi : DIt T X tg iter it) (hg : DG T X tg ks g) (hb : DSs T X body b) (hp : PassesOwn (model X.prog X.w) X.A X.env X.xe := by exact PassesOwn.never) (hc : X.calm = true := by rfl)
    (hs : ∀ x, foldedSetIterable iter X.env x = pure x := by intro _; rfl) : DS T X (.For tg iter body [] pos) (yFor it g b) :=
  ⟨PS.imp (ps_for hp hc hi.pi hg.pg hb.ps hs) fun De σ H ⟨en, ρ, dk, HS, P, x⟩ => by
    refine ⟨en, ρ, dk, HS, _, x.env, x.does, fun ds J HS1 H1 p s ok => ?_⟩
    have E1 := x.env.stp s
    refine ⟨fun i m σ' H' => ∃ ρ' dk' HS', EnvR T X.K ⟨en.H, HS1, dk⟩ ρ' dk' HS' H' σ' ∧ i + m = ds.length ∧ forL g b P (ds.drop i) ρ', ⟨ds.length, ρ, dk, HS1, E1.rebase, by omega, p⟩, ?_⟩
    rintro i m σ' H' ⟨ρ', dk', HS', E', em, q⟩
    obtain ⟨ok1, ok2⟩ := ok dk' HS' H' E'.fin.sh E'.wd
    cases m with
    | zero =>
      have ei : i = ds.length := by omega
      subst ei
      rw [List.drop_length] at q
      exact .inl ⟨ok2, x.nx _ _ _ _ _ q (EnvR.unbase E1.fin E')⟩
    | succ m =>
      have hi : i < ds.length := by omega
      rw [List.drop_eq_getElem_cons hi] at q
      obtain ⟨go, y⟩ := ok1 i ds[i] (List.getElem?_eq_getElem hi)
      refine .inr ⟨go, fun σ2 H2 => ∃ ρ2 dk2 HS2, EnvR T X.K ⟨en.H, HS1, dk⟩ ρ2 dk2 HS2 H2 σ2 ∧ forL g b P (ds.drop (i + 1)) ρ2, ?_, fun v H'' yv => ?_⟩
      · rintro σ2 H2 ⟨ρ2, dk2, HS2, E2, q2⟩
        exact ⟨m, Nat.lt_succ_self m, ρ2, dk2, HS2, E2, by omega, q2⟩
      · obtain ⟨HS'', s2, r⟩ := y v H'' yv
        refine ⟨⟨en.H, HS1, dk⟩, ρ', dk', HS'', ds[i], _, E'.stp s2, r, q, fun ρ1 σ1 p1 _ Ea => ?_⟩
        exact ⟨⟨en.H, HS1, dk⟩, ρ1, dk', HS'', { P with nx := forL g b P (ds.drop (i + 1)), ct := forL g b P (ds.drop (i + 1)), bk := P.nx }, Ea, p1,
          fun ρ3 dk3 HS3 H3 σ3 h E3 => ⟨ρ3, dk3, HS3, E3, h⟩, fun d v dk3 HS3 H3 h F3 rv => x.rt d v dk3 HS3 H3 h (E1.fin.unbase F3) rv,
          fun ρ3 dk3 HS3 H3 σ3 h E3 => x.nx _ _ _ _ _ h (EnvR.unbase E1.fin E3), fun ρ3 dk3 HS3 H3 σ3 h E3 => ⟨ρ3, dk3, HS3, E3, h⟩⟩⟩
theorem ds_while {c : Expr} {body : List Stmt} {sc : DT Bool} {b : DTS} {pos : Pos} (hc : DB T X c sc) (hb : DSs T X body b) (hp : PassesOwn (model X.prog X.w) X.A X.env X.xe := by exact PassesOwn.never) : DS T X (.While c body [] pos) (yWhile sc b) :=
  ⟨PS.imp (ps_while hp hc.pt hb.ps) fun De σ H ⟨en, ρ, dk, HS, P, x⟩ => by
    obtain ⟨n, q⟩ := x.does
    refine ⟨fun m σ' H' => ∃ ρ' dk' HS', EnvR T X.K en ρ' dk' HS' H' σ' ∧ whileN sc b P m ρ', ⟨n, ρ, dk, HS, x.env, q⟩, ?_⟩
    rintro m σ' H' ⟨ρ', dk', HS', E', q'⟩
    cases m with
    | zero => exact q'.elim
    | succ m =>
      refine ⟨en, ρ', dk', HS', _, E', q', fun k HS1 H1 p s => ?_⟩
      cases k with
      | false => exact x.nx _ _ _ _ _ p (E'.stp s)
      | true =>
        refine ⟨fun σ2 H2 => ∃ ρ2 dk2 HS2, EnvR T X.K en ρ2 dk2 HS2 H2 σ2 ∧ whileN sc b P m ρ2, fun σ2 H2 z => ⟨m, Nat.lt_succ_self m, z⟩, ?_⟩
        exact ⟨en, ρ', dk', HS1, _, E'.stp s, p, fun ρ3 dk3 HS3 H3 σ3 h E3 => ⟨ρ3, dk3, HS3, E3, h⟩, x.rt, x.nx, fun ρ3 dk3 HS3 H3 σ3 h E3 => ⟨ρ3, dk3, HS3, E3, h⟩⟩⟩
end

/-! ### comprehensions -/
def wipeD : List Nat → Envd → Envd
  | [], ρ => ρ
  | v :: vs, ρ => (wipeD vs ρ).set v .nil
def compL (g : DTg) (tt : DT Bool) (te : DT D) (P : List D → Prop) (ρ : Envd) : List D → List D → Prop
  | [], acc => P acc
  | d :: ds, acc => g d ρ fun ρ1 => tt ρ1 fun b => if b = true then te ρ1 fun y => acc.length < sizeLine ∧ compL g tt te P ρ ds (acc ++ [y]) else compL g tt te P ρ ds acc
def xLc (it : DT (List D)) (g : DTg) (tt : DT Bool) (te : DT D) (vs : List Nat) : DT (List D) := fun ρ P => it ρ fun ds => compL g tt te P (wipeD vs ρ) ds []
def xYes : DT Bool := fun _ P => P true
structure DTs (T : DKd) (X : Cx) (es : List Expr) (t : DT Bool) : Prop where
  pt : PTs X es (lT T X.K t)
theorem PTs.imp {X : Cx} {e : List Expr} {t t' : TT} (h : PTs X e t) (m : ∀ σ H Q, t' σ H Q → t σ H Q) : PTs X e t' := ⟨fun pins s σ H Q I q => h.run pins s σ H Q I (m σ H Q q)⟩
section
variable {T : DKd} {X : Cx} {K : PySem.W.Frag} {en : Ent} {ρ : Envd} {dk : DkA} {HS H HS1 H1 : Hp} {σ σ2 : L2.St}
theorem dts_nil : DTs T X [] xYes := ⟨PTs.imp pts_nil fun σ H Q ⟨en, ρ, dk, HS, P, E, q, k⟩ => k true HS H q (Stp.refl E.wd)⟩
theorem dts_one {c : Expr} {t : DT Bool} (h : DB T X c t) : DTs T X [c] t := ⟨pts_one h.pt⟩
theorem EnvR.wiped (E : EnvR T K en ρ dk HS H σ) : ∀ vs : List Nat, EnvR T K en (wipeD vs ρ) dk HS H (wipe σ vs)
  | [] => E
  | v :: vs => (EnvR.wiped E vs).forget none
theorem wipe_at {vs : List Nat} {j : Nat} (h : j ∈ vs) : ∀ (x : Option V), (wipe σ vs)[j]? = some x → x = none := by
  induction vs with
  | nil => cases h
  | cons v vs ih =>
    intro x e
    unfold wipe at e
    rcases get_set e with ⟨rfl, rfl⟩ | ⟨ne, e⟩
    · rfl
    · exact ih ((List.mem_cons.mp h).resolve_left fun z => ne z.symm) x e
theorem wipe_eq {vs ks : List Nat} (sub : ∀ j ∈ ks, j ∈ vs) (c : Chg ks (wipe σ vs) σ2) : wipe σ2 vs = wipe σ vs := by
  apply List.ext_getElem?
  intro j
  have l1 : (wipe σ2 vs).length = (wipe σ vs).length := by rw [wipe_length, c.1]
  by_cases hj : j ∈ vs
  · by_cases hl : j < (wipe σ vs).length
    · have a1 := wipe_at (σ := σ) hj _ (List.getElem?_eq_getElem hl)
      have a2 := wipe_at (σ := σ2) hj _ (List.getElem?_eq_getElem (by rw [l1]; exact hl))
      rw [List.getElem?_eq_getElem hl, List.getElem?_eq_getElem (by rw [l1]; exact hl), a1, a2]
    · rw [List.getElem?_eq_none (by omega), List.getElem?_eq_none (by omega)]
  · rw [L2.wipe_out hj, c.2 j fun z => hj (sub j z)]
/-- a list that is being made, nobody's name yet -/
theorem EnvR.bg (E : EnvR T K en ρ dk HS H σ) {D : Addr} {o : HO} (m : ¬ dkMem dk D) (n : HS D = none) (f : en.H D = none) (ow : ∀ (i : Nat) (ds : List PyData), ρ[i]? = some (.own ds) → σ[i]? ≠ some (some (.ref D))) (od : ∀ t kvs o, H D = some o → ¬ DctR K HS t kvs o) : EnvR T K en ρ dk HS (upd H D o) σ where
  fin := by
    refine ⟨⟨fun b o h => ?_, E.wd.off, fun x g z => ?_⟩, E.fin.sh, fun b o h k => ?_, E.fin.new, E.fin.dks, E.fin.dkf⟩
    · rw [upd_ne (ne_of_none h n)]; exact E.wd.sub b o h
    · obtain ⟨z1, z2⟩ := E.wd.dkc x g z
      have m1 : x ≠ D := fun w => m (by rw [z, ← w]; exact .inl rfl)
      have m2 : g ≠ D := fun w => m (by rw [z, ← w]; exact .inr rfl)
      exact ⟨z1, T.loc (upd_ne m1).symm (upd_ne m2).symm z2⟩
    · rw [upd_ne (ne_of_none h f)]; exact E.fin.fr b o h k
  len := E.len
  slots := fun j s e' => by
    obtain ⟨x, h1, h2⟩ := E.slots j s e'
    refine ⟨x, h1, ?_⟩
    cases s with
    | own es =>
      obtain ⟨p', us, rfl, m', n', h', q'⟩ := h2
      exact ⟨p', us, rfl, m', n', by rw [upd_ne (fun z => ow j es e' (by rw [← z]; exact h1))]; exact h', q'⟩
    | nil => trivial
    | val d => exact h2
    | deck => exact h2
    | dct u kvs =>
      obtain ⟨p', o', rfl, m', n', h', q'⟩ := h2
      exact ⟨p', o', rfl, m', n', by rw [upd_ne (fun z => od u kvs o' (by rw [← z]; exact h') q')]; exact h', q'⟩
  dist := E.dist
  fresh := E.fresh
  d2 := E.d2
theorem lift_lc {it : DT (List D)} {g : DTg} {tt : DT Bool} {te : DT D} {vs ks : List Nat} (sub : ∀ j ∈ ks, j ∈ vs) (σ : L2.St) (H : Hp) (Q : VK) (h : lF T K (xLc it g tt te vs) σ H Q) : tLc (lIt T K it) (lG T K ks g) (lT T K tt) (lE T K te) vs σ H Q := by
  obtain ⟨en, ρ, dk, HS, P, E, q, k⟩ := h
  refine ⟨en, ρ, dk, HS, _, E, q, fun ds J HS1 H1 p s ok D hD => ?_⟩
  have E1 := (E.stp s).wiped vs
  obtain ⟨s0, m0, n0⟩ := s.wd.layOwn (o := .lst []) hD
  have hDe : en.H D = none := by
    cases w : en.H D with
    | none => rfl
    | some o =>
      by_cases me : dkMem en.dk D
      · rcases E1.fin.dks with z | z
        · rw [z] at me; exact me.elim
        · rw [z] at m0; exact absurd me m0
      · have := E1.fin.fr D o w me
        rw [hD] at this; cases this
  have ow : ∀ (i : Nat) (es : List PyData), (wipeD vs ρ)[i]? = some (.own es) → (wipe σ vs)[i]? ≠ some (some (.ref D)) := fun i es e1 e2 => by
    obtain ⟨x, h1, p', us, rfl, _, _, h', _⟩ := E1.slots i _ e1
    rw [e2] at h1
    cases h1
    rw [hD] at h'; cases h'
  have hb := s.back hD
  refine ⟨fun i m H' => ∃ HS' acc av, EnvR T K en (wipeD vs ρ) dk HS' H' (wipe σ vs) ∧ Stp T dk HS H HS' H' ∧ Same HS1 HS' ∧ H' D = some (.lst av) ∧ Rvs K HS' av acc ∧ HS' D = none ∧ i + m = ds.length ∧ compL g tt te P (wipeD vs ρ) (ds.drop i) acc,
    ⟨ds.length, HS1, [], [], E1.bg m0 n0 hDe ow (fun _ _ _ z => by rw [hD] at z; cases z), s.trans s0, Same.refl _, upd_same, .nil, n0, by omega, p⟩, ?_⟩
  rintro i m H' ⟨HS', acc, av, E', s', sm, hDl, ra, nD, em, q'⟩
  obtain ⟨ok1, ok2⟩ := ok dk HS' H' sm E'.wd
  cases m with
  | zero =>
    have ei : i = ds.length := by omega
    subst ei
    rw [List.drop_length] at q'
    exact .inl ⟨ok2, k acc _ HS' H' q' s' ⟨D, av, rfl, hb, m0, nD, hDl, ra⟩⟩
  | succ m =>
    have hi : i < ds.length := by omega
    rw [List.drop_eq_getElem_cons hi] at q'
    obtain ⟨go, y⟩ := ok1 i ds[i] (List.getElem?_eq_getElem hi)
    refine .inr ⟨go, fun H2 => ∃ HS2 acc2 av2, EnvR T K en (wipeD vs ρ) dk HS2 H2 (wipe σ vs) ∧ Stp T dk HS H HS2 H2 ∧ Same HS1 HS2 ∧ H2 D = some (.lst av2) ∧ Rvs K HS2 av2 acc2 ∧ HS2 D = none ∧ compL g tt te P (wipeD vs ρ) (ds.drop (i + 1)) acc2, ?_, fun v H'' yv => ?_⟩
    · rintro H2 ⟨HS2, acc2, av2, a1, a2, a3, a4, a5, a6, a7⟩
      exact ⟨m, Nat.lt_succ_self m, HS2, acc2, av2, a1, a2, a3, a4, a5, a6, by omega, a7⟩
    · obtain ⟨HS'', s2, r⟩ := y v H'' yv
      have Ew := E'.stp s2
      -- the list stays through steps
      have keep : ∀ {HSa Ha HSb Hb : Hp} {av : List V}, Stp T dk HSa Ha HSb Hb → Ha D = some (.lst av) → HSa D = none → Hb D = some (.lst av) ∧ HSb D = none := fun {HSa Ha HSb Hb av} st h1 h2 => by
        refine ⟨st.fr D _ h1 m0, ?_⟩
        cases z : HSb D with
        | none => rfl
        | some o =>
          have w := st.new D h2 (by rw [z]; exact fun y => by cases y)
          rw [h1] at w; cases w
      obtain ⟨d2, n2⟩ := keep s2 hDl nD
      refine ⟨en, _, dk, HS'', ds[i], _, Ew, r, q', fun ρ1 σ1 p1 c1 Ea => ⟨wipe_eq sub c1, en, ρ1, dk, HS'', _, Ea, p1, fun b HS3 H3 p3 s3 => ?_⟩⟩
      obtain ⟨d3, n3⟩ := keep s3 d2 n2
      cases b with
      | false => exact ⟨HS3, acc, av, Ew.stp s3, s'.trans (s2.trans s3), sm.trans (s2.sh.trans s3.sh), d3, dps_same (s2.sh.trans s3.sh) _ _ ra, n3, p3⟩
      | true =>
        refine ⟨en, ρ1, dk, HS3, _, Ea.stp s3, p3, fun yd yv2 HS4 H4 p4 s4 ry => ?_⟩
        obtain ⟨d4, n4⟩ := keep s4 d3 n3
        have s24 := s2.trans (s3.trans s4)
        have ra4 := dps_same s24.sh _ _ ra
        refine ⟨av, d4, by rw [ra4.len]; exact p4.1, HS4, acc ++ [yd], av ++ [yv2], ((Ew.stp s3).stp s4).bg m0 n4 hDe ow (fun _ _ _ z y => by rw [d4] at z; cases z; exact y.nlst), ?_, sm.trans s24.sh, upd_same, ra4.app (.cons ry .nil), n4, p4.2⟩
        have st := s'.trans s24
        have E4 := ((Ew.stp s3).stp s4).bg (o := .lst (av ++ [yv2])) m0 n4 hDe ow (fun _ _ _ z y => by rw [d4] at z; cases z; exact y.nlst)
        refine ⟨st.sh, fun b o hbo nb => ?_, st.new, E4.wd⟩
        rw [upd_ne (ne_of_none hbo hb)]
        exact st.fr b o hbo nb
theorem df_lc {elt tg iter : Expr} {ifs : List Expr} {scope : Scope} {pos : Pos} {it : DT (List D)} {g : DTg} {tt : DT Bool} {te : DT D} {ks : List Nat} (own : List (Str × Nat)) (hN : X.N.Nodup) (hi : DIt T X tg iter it) (ok : BlkOk X.N X.env.scope scope own)
    (hg : ∀ (s : Shared) (H : Hp) (C : Addr) (cl : List (Str × Addr)) (fp : List Addr), DG T (X.blk s H scope (compEnvC scope cl C X.env) fp) tg ks g) (ht : ∀ (s : Shared) (H : Hp) (C : Addr) (cl : List (Str × Addr)) (fp : List Addr), DTs T (X.blk s H scope (compEnvC scope cl C X.env) fp) ifs tt)
    (he : ∀ (s : Shared) (H : Hp) (C : Addr) (cl : List (Str × Addr)) (fp : List Addr), DE T (X.blk s H scope (compEnvC scope cl C X.env) fp) elt te) (sub : ∀ j ∈ ks, j ∈ own.map (·.2) := by decide) (hc : X.calm = true := by rfl) (hs : ∀ x, foldedSetIterable iter X.env x = pure x := by intro _; rfl) :
    DF T X (.ListComp elt [⟨tg, iter, ifs, 0⟩] scope pos) (xLc it g tt te (own.map (·.2))) :=
  ⟨PE.imp (pe_lc hc hN hi.pi ok (fun s H C cl fp => (hg s H C cl fp).pg) (fun s H C cl fp => (ht s H C cl fp).pt) (fun s H C cl fp => (he s H C cl fp).pe) hs) (lift_lc sub)⟩
/-- name = [..] -/
theorem ds_ownLc (i : Nat) {y : Str} {py : Pos} {elt tg iter : Expr} {ifs : List Expr} {scope : Scope} {pos spos : Pos} {it : DT (List D)} {g : DTg} {tt : DT Bool} {te : DT D} {ks : List Nat} (own : List (Str × Nat)) (hN : X.N.Nodup) (hi : DIt T X tg iter it) (ok : BlkOk X.N X.env.scope scope own)
    (hg : ∀ (s : Shared) (H : Hp) (C : Addr) (cl : List (Str × Addr)) (fp : List Addr), DG T (X.blk s H scope (compEnvC scope cl C X.env) fp) tg ks g) (ht : ∀ (s : Shared) (H : Hp) (C : Addr) (cl : List (Str × Addr)) (fp : List Addr), DTs T (X.blk s H scope (compEnvC scope cl C X.env) fp) ifs tt)
    (he : ∀ (s : Shared) (H : Hp) (C : Addr) (cl : List (Str × Addr)) (fp : List Addr), DE T (X.blk s H scope (compEnvC scope cl C X.env) fp) elt te) (hsw : swapsWith (.ListComp elt [⟨tg, iter, ifs, 0⟩] scope pos) (some (.Name y py)) spos.line X.env = pure true)
    (hy : X.N[i]? = some y := by rfl) (hyl : X.env.scope.names.lookup y = some .local := by rfl) (sub : ∀ j ∈ ks, j ∈ own.map (·.2) := by decide) (hc : X.calm = true := by rfl) (hs : ∀ x, foldedSetIterable iter X.env x = pure x := by intro _; rfl) :
    DS T X (.Assign [.Name y py] (.ListComp elt [⟨tg, iter, ifs, 0⟩] scope pos) spos) (yOwn i (xLc it g tt te (own.map (·.2)))) :=
  ⟨PS.imp (ps_setLc hc hN hy hyl hsw hi.pi ok (fun s H C cl fp => (hg s H C cl fp).pg) (fun s H C cl fp => (ht s H C cl fp).pt) (fun s H C cl fp => (he s H C cl fp).pe) hs) fun De σ H ⟨en, ρ, dk, HS, P, x⟩ =>
    lift_lc sub σ H _ ⟨en, ρ, dk, HS, _, x.env, x.does, fun ds v HS1 H1 p s r => x.nx _ _ _ _ _ p (x.env.setOwn s r)⟩⟩
theorem ds_setLc (i : Nat) {y : Str} {py : Pos} {elt tg iter : Expr} {ifs : List Expr} {scope : Scope} {pos spos : Pos} {it : DT (List D)} {g : DTg} {tt : DT Bool} {te : DT D} {ks : List Nat} (own : List (Str × Nat)) (hN : X.N.Nodup) (hi : DIt T X tg iter it) (ok : BlkOk X.N X.env.scope scope own)
    (hg : ∀ (s : Shared) (H : Hp) (C : Addr) (cl : List (Str × Addr)) (fp : List Addr), DG T (X.blk s H scope (compEnvC scope cl C X.env) fp) tg ks g) (ht : ∀ (s : Shared) (H : Hp) (C : Addr) (cl : List (Str × Addr)) (fp : List Addr), DTs T (X.blk s H scope (compEnvC scope cl C X.env) fp) ifs tt)
    (he : ∀ (s : Shared) (H : Hp) (C : Addr) (cl : List (Str × Addr)) (fp : List Addr), DE T (X.blk s H scope (compEnvC scope cl C X.env) fp) elt te) (hsw : swapsWith (.ListComp elt [⟨tg, iter, ifs, 0⟩] scope pos) (some (.Name y py)) spos.line X.env = pure true)
    (hy : X.N[i]? = some y := by rfl) (hyl : X.env.scope.names.lookup y = some .local := by rfl) (sub : ∀ j ∈ ks, j ∈ own.map (·.2) := by decide) (hc : X.calm = true := by rfl) (hs : ∀ x, foldedSetIterable iter X.env x = pure x := by intro _; rfl) :
    DS T X (.Assign [.Name y py] (.ListComp elt [⟨tg, iter, ifs, 0⟩] scope pos) spos) (ySet i (xShare (xLc it g tt te (own.map (·.2))))) :=
  ⟨PS.imp (ps_setLc hc hN hy hyl hsw hi.pi ok (fun s H C cl fp => (hg s H C cl fp).pg) (fun s H C cl fp => (ht s H C cl fp).pt) (fun s H C cl fp => (he s H C cl fp).pe) hs) fun De σ H ⟨en, ρ, dk, HS, P, x⟩ =>
    lift_lc sub σ H _ ⟨en, ρ, dk, HS, _, x.env, x.does, fun ds v HS1 H1 p s r => by
      obtain ⟨HS2, s2, rv⟩ := r.share x.env.wd s
      exact x.nx _ _ _ _ _ p ((x.env.stp s2).set rv)⟩⟩
end

/-! ### repr -/
mutual
/-- no list within -/
def noL : D → Bool
  | .list _ => false
  | .tuple ds => noLs ds
  | _ => true
def noLs : List D → Bool
  | [] => true
  | d :: ds => noL d && noLs ds
end
/-- a dict stands beside no list -/
def dictOk (d : D) : Bool := !d.hasDict || noL d
def fRepr : List D → Option D
  | [.list ds] => if (PyData.list ds).showable = true ∧ (PyData.list ds).depth ≤ 60 ∧ (PyData.list ds).shown.length ≤ sizeLine ∧ dictOk (.list ds) = true then some (.str (PyData.list ds).shown) else none
  | [.tuple ds] => if (PyData.tuple ds).showable = true ∧ (PyData.tuple ds).depth ≤ 60 ∧ (PyData.tuple ds).shown.length ≤ sizeLine ∧ dictOk (.tuple ds) = true then some (.str (PyData.tuple ds).shown) else none
  | [.int i] => if i.natAbs.log2 < 1920 then some (.str (toString i)) else none
  | [.none] => some (.str "None")
  | [.bool b] => some (.str (if b then "True" else "False"))
  | [.str x] => if (PyData.shown (.str x)).length ≤ sizeLine then some (.str (PyData.shown (.str x))) else none
  | [.dict kvs] => if (PyData.dict kvs).showable = true ∧ (PyData.dict kvs).depth ≤ 60 ∧ (PyData.dict kvs).shown.length ≤ sizeLine then some (.str (PyData.dict kvs).shown) else none
  | _ => none
section
variable {X : Cx} {pins : List (Addr × Obj)} {σ : L2.St} {H : Hp} {s : Shared}
mutual
theorem Rv.rds (I : Inv X pins σ H s) : ∀ (d : D) (v : V) (u : Value), Rv X.K H v d → RelV v u → ∃ as, Reads s.heap u d as ∧ (noL d = true → sysModules ∉ as)
  | .none, _, _, h, r => by
    cases h
    cases r
    exact ⟨_, Reads.none, fun _ z => by cases z⟩
  | .bool b, _, _, h, r => by
    cases h
    cases r
    exact ⟨_, Reads.bool b, fun _ z => by cases z⟩
  | .int i, _, _, h, r => by
    cases h
    obtain ⟨t, rfl⟩ := r
    exact ⟨_, Reads.int i t, fun _ z => by cases z⟩
  | .str x, _, _, h, r => by
    cases h
    obtain ⟨t, rfl⟩ := r
    exact ⟨_, Reads.str x t, fun _ z => by cases z⟩
  | .list ds, _, _, h, r => by
    cases h with
    | lst hs ha =>
      cases r
      obtain ⟨its, rv, ⟨o, n, ho, hc, _, hd⟩, _⟩ := I.list (SqL.of hs)
      obtain ⟨as, hr, _⟩ := Rvs.rds I ds _ its ha rv
      exact ⟨_, Reads.list ho hc hd hr, fun z => by unfold noL at z; cases z⟩
  | .tuple ds, _, _, h, r => by
    cases h with
    | tup hs ha =>
      cases r
      obtain ⟨its, rv, ⟨o, ho, hc, n, hd⟩, _⟩ := I.tuple (SqT.of hs)
      obtain ⟨as, hr, hn⟩ := Rvs.rds I ds _ its ha rv
      exact ⟨_, Reads.tuple ho hc hd hr, fun z => hn (by unfold noL at z; exact z)⟩
  | .dict ks, _, _, h, r => by
    cases h with
    | @dic a kvs ks hs hk =>
      cases r
      obtain ⟨_, hne, vs, rel, o, es, ep, ho, hx, hd, _, hp, _⟩ := dk_of I.hok hs
      have hs' : sysModules ≠ a := fun z => by rw [← z] at hne; simp at hne
      cases hk with
      | nil =>
        cases rel
        have he : es.toList = [] := by
          cases q : es.toList with
          | nil => rfl
          | cons x y => rw [q] at hp; cases hp
        refine ⟨a :: [] ++ [], Reads.dict (kvs := []) ho hx.1 hd ?_ ?_, fun _ z => ?_⟩
        · rw [he]; exact ReadsAll.nil
        · rw [he]; exact ReadsAll.nil
        · simp at z
          exact hs' z
      | one x i =>
        obtain ⟨⟨qk, qv⟩, rfl, p1, p2⟩ : ∃ q : Key × Value, vs = [q] ∧ (Sum.inr x : Key) = q.1 ∧ RelV (.int i) q.2 := by
          cases rel with
          | cons p0 rest =>
            cases rest
            exact ⟨_, rfl, p0.1, p0.2⟩
        obtain ⟨t, rfl⟩ : ∃ t, qv = Value.int i t := p2
        have p1' : (Sum.inr x : Key) = qk := p1
        subst p1'
        obtain ⟨e, he, hk1, hk2⟩ : ∃ e, es.toList = [e] ∧ keyIs (.inr x) e.key = true ∧ e.val = Value.int i t := by
          cases q : es.toList with
          | nil => rw [q] at hp; cases hp
          | cons e y =>
            rw [q] at hp
            cases hp with
            | cons b1 b2 b3 =>
              cases b3
              exact ⟨e, rfl, b1, b2⟩
        obtain ⟨x', t', e1, e2⟩ := (keyIs_shape hk1).resolve_left fun ⟨_, _, z, _⟩ => nomatch z
        cases e1
        refine ⟨a :: ([] ++ []) ++ ([] ++ []), Reads.dict (kvs := [(.str x, .int i)]) ho hx.1 hd ?_ ?_, fun _ z => ?_⟩
        · rw [he]
          show ReadsAll _ [e.key] [.str x] _
          rw [e2]
          exact ReadsAll.cons (Reads.str x t') ReadsAll.nil
        · rw [he]
          show ReadsAll _ [e.val] [.int i] _
          rw [hk2]
          exact ReadsAll.cons (Reads.int i t) ReadsAll.nil
        · simp at z
          exact hs' z
theorem Rvs.rds (I : Inv X pins σ H s) : ∀ (ds : List D) (vs : List V) (us : List Value), Rvs X.K H vs ds → Vals vs us → ∃ as, ReadsAll s.heap us ds as ∧ (noLs ds = true → sysModules ∉ as)
  | [], _, _, h, r => by
    cases h
    cases r
    exact ⟨_, ReadsAll.nil, fun _ z => by cases z⟩
  | d :: ds, _, _, h, r => by
    cases h with
    | cons h1 h2 =>
      cases r with
      | cons r1 r2 =>
        obtain ⟨as, q1, n1⟩ := Rv.rds I d _ _ h1 r1
        obtain ⟨bs, q2, n2⟩ := Rvs.rds I ds _ _ h2 r2
        refine ⟨_, ReadsAll.cons q1 q2, fun z => ?_⟩
        have z' : (noL d && noLs ds) = true := by unfold noLs at z; exact z
        obtain ⟨z1, z2⟩ := Bool.and_eq_true_iff.mp z'
        rw [List.mem_append]
        exact fun w => w.elim (n1 z1) (n2 z2)
end
end
section
variable {T : DKd} {X : Cx}
theorem c_repr (hu : X.A.units + 64 < cLine) (hgd : X.A.guards = some []) : CallR X (.builtin "repr") (rC T X.K fRepr) := fun pins s σ H xs us Q I rx q => by
  obtain ⟨dk, HS, ds, dz, w, r, e, k⟩ := q
  have go : ∀ (d : D) (a : Addr) , ds = [d] → xs = [.ref a] → Rv X.K H (.ref a) d → d.showable = true → d.depth ≤ 60 → d.shown.length ≤ sizeLine → dictOk d = true → dz = .str d.shown → wpAny (model X.prog X.w) X.A (call (.builtin "repr") us) (EP X pins σ Q) X.xe s := by
    intro d a hd hx rv c1 c2 c3 c4 hz
    subst hx hz
    cases rx with
    | cons ru rt =>
      cases rt
      cases ru
      obtain ⟨as, rd, nsm⟩ := Rv.rds I d _ _ rv rfl
      refine PySem.repr_of_reads' rd c1 (fun z => ?_) hgd (by omega) (fun b o h => h) (fun h' u tk kp => ?_) c3
      · unfold dictOk at c4
        rw [z] at c4
        exact nsm (by simpa using c4)
      · exact ⟨.str d.shown, H, I.kept kp, ⟨_, rfl⟩, k _ HS H (Stp.refl w) (.str _)⟩
  unfold fRepr at e
  split at e
  case h_1 l =>
    obtain ⟨c, rfl⟩ := if_some e
    obtain ⟨v, hx, rr⟩ := rps1 r
    have rv := rr.rv w
    obtain ⟨a, vs, rfl, _⟩ := rr.lst w
    exact go _ a rfl hx rv c.1 c.2.1 c.2.2.1 c.2.2.2 rfl
  case h_2 l =>
    obtain ⟨c, rfl⟩ := if_some e
    obtain ⟨v, hx, rr⟩ := rps1 r
    have rv := rr.rv w
    obtain ⟨a, vs, rfl, _⟩ := rr.tup w
    exact go _ a rfl hx rv c.1 c.2.1 c.2.2.1 c.2.2.2 rfl
  case h_3 i =>
    obtain ⟨c, rfl⟩ := if_some e
    obtain ⟨v, hx, rr⟩ := rps1 r
    obtain rfl := rr.int
    subst hx
    obtain ⟨u, rfl, t, rfl⟩ := vals1 rx
    exact PySem.P.repr_of_int c ⟨.str _, H, I.tok _, ⟨_, rfl⟩, k _ HS H (Stp.refl w) (.str _)⟩
  case h_4 =>
    cases e
    obtain ⟨v, hx, rr⟩ := rps1 r
    obtain rfl := rr.non
    subst hx
    obtain ⟨u, rfl, ru⟩ := vals1 rx
    cases ru
    exact PySem.P.repr_of_none ⟨.str _, H, I.tok _, ⟨_, rfl⟩, k _ HS H (Stp.refl w) (.str _)⟩
  case h_5 b =>
    cases e
    obtain ⟨v, hx, rr⟩ := rps1 r
    obtain rfl := rr.bool
    subst hx
    obtain ⟨u, rfl, ru⟩ := vals1 rx
    cases ru
    exact PySem.P.repr_of_bool ⟨.str _, H, I.tok _, ⟨_, rfl⟩, k _ HS H (Stp.refl w) (.str _)⟩
  case h_6 x =>
    obtain ⟨c, rfl⟩ := if_some e
    obtain ⟨v, hx, rr⟩ := rps1 r
    obtain rfl := rr.str
    subst hx
    obtain ⟨u, rfl, t, rfl⟩ := vals1 rx
    exact PySem.P.repr_of_str ⟨.str _, H, I.tok _, ⟨_, rfl⟩, k _ HS H (Stp.refl w) (.str _)⟩ c
  case h_7 kvs =>
    obtain ⟨c, rfl⟩ := if_some e
    obtain ⟨v, hx, rr⟩ := rps1 r
    have rv := rr.rv w
    obtain ⟨a, rfl⟩ : ∃ a, v = .ref a := by
      cases rv with
      | dic h q => exact ⟨_, rfl⟩
    exact go _ a rfl hx rv c.1 c.2.1 c.2.2 (by unfold dictOk noL; simp) rfl
  case h_8 => cases e
end
end DL

namespace DL
open PySem PySem.Spec PyProof.Rows L2

/-! ### sum, max, min of a tuple of ints -/
section
variable {prog : Program} {w : World} {A : Around} {E : Value → Shared → Prop} {s : Shared} {a : Addr} {its : List Value} {ns : List Int} {Q : Value → Shared → Prop}
theorem iter_tup {vs : Array Value} (ht : s.heap.IsTuple a vs) {Q : Value → Shared → Prop}
    (h : ∀ s2 : Shared, s2 = { s with heap := s.heap.push { cls := .type "tuple_iterator", data := .fields #[.ref a, .int 0 0] } } → (s2.heap.IsTupleIter s.heap.objs.size a 0 ∧ s2.heap.IsTuple a vs) → (∀ b ∈ [s.heap.objs.size, a], b < s2.heap.objs.size) → a ≠ s.heap.objs.size → Q (.ref s.heap.objs.size) s2) :
    wpAny (model prog w) A (pyIter (.ref a)) Q E s := by
  have lt : a < s.heap.objs.size := by obtain ⟨_, e, _⟩ := ht; exact Heap.lt_size e
  refine wpAny_pyIter_tuple ht (h _ rfl ⟨⟨_, Heap.get?_push_size _ rfl, rfl, rfl⟩, ht.push _⟩ ?_ (Nat.ne_of_lt lt))
  intro b hb
  have sz : (s.heap.push { cls := .type "tuple_iterator", data := .fields #[.ref a, .int 0 0] }).objs.size = s.heap.objs.size + 1 := Heap.size_push ..
  show b < (s.heap.push { cls := .type "tuple_iterator", data := .fields #[.ref a, .int 0 0] }).objs.size
  rw [sz]
  simp only [List.mem_cons, List.not_mem_nil, or_false] at hb
  rcases hb with rfl | rfl
  · exact Nat.lt_succ_self _
  · exact Nat.lt_succ_of_lt lt
theorem old_stays {h0 h' : Heap} {I : Addr} {o : Obj} (hk : ∀ b ob, b ∉ [h0.objs.size] → (h0.push o).get? b = some ob → h'.get? b = some ob) : ∀ b ob, h0.get? b = some ob → h'.get? b = some ob := fun b ob e =>
  hk b ob (by simp only [List.mem_singleton]; exact Nat.ne_of_lt (Heap.lt_size e)) (Heap.get?_push_of_some _ e)
theorem sum_tup (hh : A.handled = none) (hl : s.heap.IsTuple a its.toArray) (hi : IntsAre its ns)
    (h : ∀ h' tk t', (∀ b o, s.heap.get? b = some o → h'.get? b = some o) → Q (.int ns.sum t') { s with heap := h', toks := tk }) : wpAny (model prog w) A (call (.builtin "sum") [.ref a]) Q E s := by
  obtain ⟨xs, e⟩ := hi.allInts.items
  have hn : numsOf (intItems xs).toList = ns := by rw [← e]; exact hi.numsOf
  rw [nums_intItems] at hn
  rw [e] at hl
  refine call_sum_walkG (iter_tup hl fun s2 e2 st hfp ne => ?_)
  subst e2
  refine ⟨_, _, _, _, _, _, numAt xs, rfl, Walks.tuple (A := A.in1) hh _ a ne (intItems xs), st, hfp, (fun _ _ => intItems_at), fun h' tk t' hk => ?_⟩
  have z := h h' tk t' (old_stays (I := a) hk)
  have e3 : preSum (numAt xs) (intItems xs).size = ns.sum := by
    have e4 : (intItems xs).size = xs.size := by simp [intItems]
    rw [e4, preSum_eq, List.take_of_length_le (by simp), hn]
  rw [e3]
  exact z
theorem max_tup (hh : A.handled = none) (hl : s.heap.IsTuple a its.toArray) (hi : IntsAre its ns) (hne : 0 < ns.length)
    (h : ∀ h' tk M t', (∀ b o, s.heap.get? b = some o → h'.get? b = some o) → M ∈ ns → (∀ y, y ∈ ns → y ≤ M) → Q (.int M t') { s with heap := h', toks := tk }) : wpAny (model prog w) A (call (.builtin "max") [.ref a]) Q E s := by
  obtain ⟨xs, e⟩ := hi.allInts.items
  have hn : numsOf (intItems xs).toList = ns := by rw [← e]; exact hi.numsOf
  rw [nums_intItems] at hn
  subst hn
  rw [e] at hl
  have hsz : 0 < xs.size := by simpa using hne
  refine call_max_walk (iter_tup hl fun s2 e2 st hfp ne => ?_)
  subst e2
  refine ⟨_, _, _, _, _, _, _, rfl, Walks.tuple (A := A.in1) hh _ a ne (intItems xs), st, hfp, by simpa [intItems] using hsz, CmpOf.ints_gt (numAt xs) (fun _ _ => intItems_at), fun v h' tk hP hk => ?_⟩
  have hP' : (intItems xs)[argBest (fun i j => decide (numAt xs i > numAt xs j)) (xs.size - 1)]? = some v := by simpa [intItems] using hP
  obtain ⟨t, rfl⟩ := intItems_at hP'
  obtain ⟨g1, g2⟩ := argBest_gt (numAt xs) (xs.size - 1)
  refine h h' tk _ t (old_stays (I := a) hk) ?_ fun y hy => ?_
  · rw [numAt_eq]; exact PySem.getD_mem (by rw [List.length_map, Array.length_toList]; omega)
  · obtain ⟨j, hj, rfl⟩ := mem_getD hy
    rw [List.length_map, Array.length_toList] at hj
    rw [← numAt_eq]; exact g2 j (by omega)
theorem min_tup (hh : A.handled = none) (hl : s.heap.IsTuple a its.toArray) (hi : IntsAre its ns) (hne : 0 < ns.length)
    (h : ∀ h' tk M t', (∀ b o, s.heap.get? b = some o → h'.get? b = some o) → M ∈ ns → (∀ y, y ∈ ns → M ≤ y) → Q (.int M t') { s with heap := h', toks := tk }) : wpAny (model prog w) A (call (.builtin "min") [.ref a]) Q E s := by
  obtain ⟨xs, e⟩ := hi.allInts.items
  have hn : numsOf (intItems xs).toList = ns := by rw [← e]; exact hi.numsOf
  rw [nums_intItems] at hn
  subst hn
  rw [e] at hl
  have hsz : 0 < xs.size := by simpa using hne
  refine call_min_walk (iter_tup hl fun s2 e2 st hfp ne => ?_)
  subst e2
  refine ⟨_, _, _, _, _, _, _, rfl, Walks.tuple (A := A.in1) hh _ a ne (intItems xs), st, hfp, by simpa [intItems] using hsz, CmpOf.ints_lt (numAt xs) (fun _ _ => intItems_at), fun v h' tk hP hk => ?_⟩
  have hP' : (intItems xs)[argBest (fun i j => decide (numAt xs i < numAt xs j)) (xs.size - 1)]? = some v := by simpa [intItems] using hP
  obtain ⟨t, rfl⟩ := intItems_at hP'
  obtain ⟨g1, g2⟩ := argBest_lt (numAt xs) (xs.size - 1)
  refine h h' tk _ t (old_stays (I := a) hk) ?_ fun y hy => ?_
  · rw [numAt_eq]; exact PySem.getD_mem (by rw [List.length_map, Array.length_toList]; omega)
  · obtain ⟨j, hj, rfl⟩ := mem_getD hy
    rw [List.length_map, Array.length_toList] at hj
    rw [← numAt_eq]; exact g2 j (by omega)
end
section
variable {T : DKd} {X : Cx}
theorem cr_sumT (hc : X.calm = true) : CallR X (.builtin "sum") (fun vs H Q => ∃ (a : Addr) (ns : List Int), vs = [V.ref a] ∧ SqT X.K H a (ns.map V.int) ∧ Q (.int ns.sum) H) := fun pins s σ H vs us Q I r ⟨a, ns, e, hs, q⟩ => by
  subst e
  obtain ⟨its, rv, hl, _⟩ := I.tuple hs
  rw [Vals.ref1 r]
  exact sum_tup (I.ok.hd hc) hl rv.ints fun h' tk t' hk => ⟨.int _, H, I.kept hk, ⟨_, rfl⟩, q⟩
theorem cr_maxT (hc : X.calm = true) : CallR X (.builtin "max") (fun vs H Q => ∃ (a : Addr) (ns : List Int), vs = [V.ref a] ∧ SqT X.K H a (ns.map V.int) ∧ 0 < ns.length ∧ ∀ m, m ∈ ns → (∀ y, y ∈ ns → y ≤ m) → Q (.int m) H) := fun pins s σ H vs us Q I r ⟨a, ns, e, hs, hne, q⟩ => by
  subst e
  obtain ⟨its, rv, hl, _⟩ := I.tuple hs
  rw [Vals.ref1 r]
  exact max_tup (I.ok.hd hc) hl rv.ints hne fun h' tk m t' hk h1 h2 => ⟨.int _, H, I.kept hk, ⟨_, rfl⟩, q m h1 h2⟩
theorem cr_minT (hc : X.calm = true) : CallR X (.builtin "min") (fun vs H Q => ∃ (a : Addr) (ns : List Int), vs = [V.ref a] ∧ SqT X.K H a (ns.map V.int) ∧ 0 < ns.length ∧ ∀ m, m ∈ ns → (∀ y, y ∈ ns → m ≤ y) → Q (.int m) H) := fun pins s σ H vs us Q I r ⟨a, ns, e, hs, hne, q⟩ => by
  subst e
  obtain ⟨its, rv, hl, _⟩ := I.tuple hs
  rw [Vals.ref1 r]
  exact min_tup (I.ok.hd hc) hl rv.ints hne fun h' tk m t' hk h1 h2 => ⟨.int _, H, I.kept hk, ⟨_, rfl⟩, q m h1 h2⟩
def fSum' : List D → Option D
  | [.tuple ds] => (intsOf ds).map fun ns => .int ns.sum
  | l => fSum l
def fMax' : List D → Option D
  | [.tuple ds] => (intsOf ds).bind fun ns => (maxI ns).map PyData.int
  | l => fMax l
def fMin' : List D → Option D
  | [.tuple ds] => (intsOf ds).bind fun ns => (minI ns).map PyData.int
  | l => fMin l
theorem callR_or {f : Value} {r r' : List V → Hp → VK → Prop} (h : CallR X f r) (h' : CallR X f r') : CallR X f (fun xs H Q => r xs H Q ∨ r' xs H Q) := CallR.or h h'
theorem c_sum' (hc : X.calm = true) : CallR X (.builtin "sum") (rC T X.K fSum') := callR_imp (callR_or (cr_sumT hc) (c_sum (T := T) hc)) fun xs H Q q => by
  obtain ⟨dk, HS, ds, dz, w, r, e, k⟩ := q
  unfold fSum' at e
  split at e
  case h_1 l =>
    obtain ⟨v, rfl, rr⟩ := rps1 r
    cases ei : intsOf l with
    | none => rw [ei] at e; cases e
    | some ns =>
      rw [ei] at e
      cases e
      have el := intsOf_eq ei
      subst el
      obtain ⟨a, vs, rfl, _, h1, q1⟩ := rr.tup w
      have z := q1.intsV
      subst z
      exact .inl ⟨a, ns, rfl, h1, k _ HS H (Stp.refl w) (.int _)⟩
  case h_2 => exact .inr ⟨dk, HS, ds, dz, w, r, e, k⟩
theorem c_max' (hc : X.calm = true) : CallR X (.builtin "max") (rC T X.K fMax') := callR_imp (callR_or (cr_maxT hc) (c_max (T := T) hc)) fun xs H Q q => by
  obtain ⟨dk, HS, ds, dz, w, r, e, k⟩ := q
  unfold fMax' at e
  split at e
  case h_1 l =>
    obtain ⟨v, rfl, rr⟩ := rps1 r
    cases ei : intsOf l with
    | none => rw [ei] at e; cases e
    | some ns =>
      rw [ei] at e
      cases em : maxI ns with
      | none => simp only [Option.bind_some, em, Option.map_none] at e; cases e
      | some m =>
        simp only [Option.bind_some, em, Option.map_some] at e
        cases e
        have el := intsOf_eq ei
        subst el
        obtain ⟨a, vs, rfl, _, h1, q1⟩ := rr.tup w
        have z := q1.intsV
        subst z
        obtain ⟨m1, m2⟩ := maxI_spec em
        refine .inl ⟨a, ns, rfl, h1, List.length_pos_of_mem m1, fun m' h2 h3 => ?_⟩
        have : m' = m := Int.le_antisymm (m2 _ h2) (h3 _ m1)
        subst this
        exact k _ HS H (Stp.refl w) (.int _)
  case h_2 => exact .inr ⟨dk, HS, ds, dz, w, r, e, k⟩
theorem c_min' (hc : X.calm = true) : CallR X (.builtin "min") (rC T X.K fMin') := callR_imp (callR_or (cr_minT hc) (c_min (T := T) hc)) fun xs H Q q => by
  obtain ⟨dk, HS, ds, dz, w, r, e, k⟩ := q
  unfold fMin' at e
  split at e
  case h_1 l =>
    obtain ⟨v, rfl, rr⟩ := rps1 r
    cases ei : intsOf l with
    | none => rw [ei] at e; cases e
    | some ns =>
      rw [ei] at e
      cases em : minI ns with
      | none => simp only [Option.bind_some, em, Option.map_none] at e; cases e
      | some m =>
        simp only [Option.bind_some, em, Option.map_some] at e
        cases e
        have el := intsOf_eq ei
        subst el
        obtain ⟨a, vs, rfl, _, h1, q1⟩ := rr.tup w
        have z := q1.intsV
        subst z
        obtain ⟨m1, m2⟩ := minI_spec em
        refine .inl ⟨a, ns, rfl, h1, List.length_pos_of_mem m1, fun m' h2 h3 => ?_⟩
        have : m' = m := Int.le_antisymm (h3 _ m1) (m2 _ h2)
        subst this
        exact k _ HS H (Stp.refl w) (.int _)
  case h_2 => exact .inr ⟨dk, HS, ds, dz, w, r, e, k⟩

/-! ### a loop over a list or a tuple -/
theorem dit_seq {tg e : Expr} {ta : DT D} (he : DE T X e ta) : DIt T X tg e (xItems ta) := by
  refine ⟨⟨fun pins s σ H R I h => ?_⟩⟩
  obtain ⟨en, ρ, dk, HS, P, E, q, k⟩ := h
  refine thn (he.pe.run pins s σ H (fun v H1 => ∃ d HS1, (∃ ds, itemsOf d = some ds ∧ P ds) ∧ Stp T dk HS H HS1 H1 ∧ Rv X.K HS1 v d) I ⟨en, ρ, dk, HS, _, E, q, fun d v HS1 H1 p s r => ⟨d, HS1, p, s, r⟩⟩) fun v s1 ⟨x, H1, I1, r1, d, HS1, ⟨ds, e1, p⟩, st, r⟩ => ?_
  cases d <;> try cases e1
  case list =>
    cases r with
    | lst h q =>
      have h1 : SqL X.K H1 _ _ := SqL.of (st.wd.sub _ _ h)
      obtain ⟨its, rv, pl, hz⟩ := I1.list h1
      cases r1
      refine wpAny_pyIter_list pl.isList ?_
      refine ⟨s1.heap.objs.size, [s1.heap.objs.size], _, _, H1, rfl, I1.kept (t' := s1.toks) (fun b o z => Heap.get?_push_of_some _ z), turn_list _ _, ⟨_, Heap.get?_push_size _ rfl, rfl, rfl⟩, ?_, k _ _ HS1 H1 p st (it_list h q)⟩
      intro b hb
      rw [List.mem_singleton.mp hb]
      exact I1.fpOk (Nat.le_refl _) (I1.hok.fresh (Nat.le_refl _))
  case tuple =>
    cases r with
    | tup h q =>
      have h1 : SqT X.K H1 _ _ := SqT.of (st.wd.sub _ _ h)
      obtain ⟨its, rv, pl, hz⟩ := I1.tuple h1
      cases r1
      refine wpAny_pyIter_tuple (show s1.heap.IsTuple _ its.toArray from pl) ?_
      refine ⟨s1.heap.objs.size, [s1.heap.objs.size], _, _, H1, rfl, I1.kept (t' := s1.toks) (fun b o z => Heap.get?_push_of_some _ z), turn_tuple _ _, ⟨_, Heap.get?_push_size _ rfl, rfl, rfl⟩, ?_, k _ _ HS1 H1 p st (it_tup (SqT.of h) q)⟩
      intro b hb
      rw [List.mem_singleton.mp hb]
      exact I1.fpOk (Nat.le_refl _) (I1.hok.fresh (Nat.le_refl _))
end
end DL

namespace DL
open PySem PySem.Spec PyProof.Rows L2

/-! ### the source of drawn numbers of the first kind: a dict of a list and two ints -/
def deckKV (g : Addr) (m t : Int) : List (Key × V) := [(.inr "great", .ref g), (.inr "mixed", .int m), (.inr "turns", .int t)]
theorem deck_great (g : Addr) (m t : Int) : valV (deckKV g m t) (.inr "great") = some (.ref g) := rfl
theorem deck_mixed (g : Addr) (m t : Int) : valV (deckKV g m t) (.inr "mixed") = some (.int m) := rfl
theorem deck_turns (g : Addr) (m t : Int) : valV (deckKV g m t) (.inr "turns") = some (.int t) := rfl
theorem deck_putT (g : Addr) (m t u : Int) : putK (deckKV g m t) (.inr "turns") (.int u) = deckKV g m u := rfl
theorem deck_putM (g : Addr) (m t u : Int) : putK (deckKV g m t) (.inr "mixed") (.int u) = deckKV g u t := rfl
def deckT : DKd where
  lies H p g := ∃ (gs : List Int) (m t : Int), H p = some (.dK (deckKV g m t)) ∧ H g = some (.lst (gs.map V.int)) ∧ gs.length ≤ 63 ∧ 0 ≤ m ∧ m < 2 ^ 32
  loc h1 h2 := fun ⟨gs, m, t, a, b, c⟩ => ⟨gs, m, t, h1 ▸ a, h2 ▸ b, c⟩
  fstS := fun ⟨_, _, _, a, _⟩ z => by rw [a] at z; cases z
  sndS := fun ⟨_, _, _, _, b, _⟩ z => by rw [b] at z; cases z
/-- a drawn number below many -/
def spDraw : SpD := fun as P => ∃ many : Int, as = [.dk, .d (.int many)] ∧ 1 ≤ many ∧ many.natAbs.log2 < 9000 ∧ ∀ r : Int, 0 ≤ r → r < many → P (.int r)
theorem ints_ok (ns : List Int) : SeqAt.shaped (.list (ns.map PyData.int)) = true := by
  unfold SeqAt.shaped
  have h1 : ∀ l : List Int, PyData.canLayAll0 (l.map PyData.int) = true := fun l => by
    induction l with
    | nil => rfl
    | cons a l ih => simp only [List.map_cons, PyData.canLayAll0, ih, PyData.canLay0, Bool.and_true]
  have h2 : ∀ l : List Int, PyData.depthAll (l.map PyData.int) ≤ 0 := fun l => by
    induction l with
    | nil => exact Nat.le_refl _
    | cons a l ih =>
      simp only [List.map_cons, PyData.depthAll, PyData.depth]
      omega
  have h3 : (PyData.list (ns.map PyData.int)).canLay0 = true := by simpa only [PyData.canLay0] using h1 ns
  have h4 : (PyData.list (ns.map PyData.int)).depth ≤ 64 := by
    have := h2 ns
    simp only [PyData.depth]
    omega
  rw [h3, decide_eq_true h4]
  rfl
theorem dps_ints {K : PySem.W.Frag} {H : Hp} : ∀ ns : List Int, DpAll K H (ns.map V.int) (ns.map PyData.int)
  | [] => .nil
  | n :: r => .cons (.int n) (dps_ints r)
theorem eqv_nil (ns : List Int) : PyData.eqv (.list (ns.map PyData.int)) (.list []) = ns.isEmpty := by
  cases ns with
  | nil => simp [PyData.eqv, PyData.eqvAll]
  | cons a r => simp [PyData.eqv, PyData.eqvAll]
section
variable {T : DKd} {K : PySem.W.Frag}
/-- the state's two places are written, all else stays -/
theorem deck_step {dk : DkA} {HS H H1 : Hp} {p g : Addr} (w : Wd T dk HS H) (e : dk = some (p, g)) (h : ∀ b, b ≠ p → b ≠ g → H1 b = H b) (l : T.lies H1 p g) : Stp T dk HS H HS H1 where
  sh := Same.refl _
  fr := fun b o hb nm => by
    rw [h b (fun z => nm (by rw [e, z]; exact .inl rfl)) (fun z => nm (by rw [e, z]; exact .inr rfl))]
    exact hb
  new := fun b h1 h2 => absurd h1 h2
  wd := by
    refine ⟨fun b o hb => ?_, w.off, fun x y z => ?_⟩
    · have n1 : b ≠ p := fun z => by
        have := w.off b (by rw [e, z]; exact .inl rfl)
        rw [hb] at this; cases this
      have n2 : b ≠ g := fun z => by
        have := w.off b (by rw [e, z]; exact .inr rfl)
        rw [hb] at this; cases this
      rw [h b n1 n2]; exact w.sub b o hb
    · rw [e] at z
      cases z
      exact ⟨(w.dkc p g e).1, l⟩
end
theorem mod_lt32 {a b : Int} (h0 : 0 < b) (h : b < 2 ^ 32) : 0 ≤ a % b ∧ a % b < 2 ^ 32 := ⟨Int.emod_nonneg _ (by omega), Int.lt_trans (Int.emod_lt_of_pos _ h0) h⟩
end DL
namespace DL
open PySem PySem.Spec PyProof.Rows L2
/-- the promise of a def that makes such a source of the script -/
def spMk (T : DKd) (K : PySem.W.Frag) : Sp := fun vs H Q _ => ∃ (a : Addr) (ns : List Int), vs = [.ref a] ∧ SqL K H a (ns.map V.int) ∧ ns.length ≤ 63 ∧
  ∀ (p g : Addr) (H' : Hp), Same H H' → H p = none → H g = none → p ≠ g → T.lies H' p g → Q (.ref p) H'
/-- the promise of the law's own def -/
def spLaw (K : PySem.W.Frag) : Sp := fun vs H Q _ => ∃ (a : Addr) (ns : List Int), vs = [.ref a] ∧ SqL K H a (ns.map V.int) ∧ ns.length ≤ 63 ∧ ∀ H', Q (.bl true) H'
theorem cut63 (ns : List Int) (h : ns.length ≤ 63) : cutV (ns.map V.int) none (some 63) = ns.map V.int := by
  unfold cutV
  rw [HT.sIx_none, show HT.sIx (ns.map V.int).length (ns.map V.int).length (some 63) = min 63 (ns.map V.int).length from HT.sIx_nat _ _ 63, List.drop_zero, Nat.sub_zero, List.length_map, Nat.min_eq_right h]
  exact List.take_of_length_le (by rw [List.length_map]; exact Nat.le_refl _)
/-- ahead of the first drawn number: the source has just been made -/
theorem env_made {T : DKd} {K : PySem.W.Frag} {H' : Hp} {p g : Addr} {n : Nat} {x : Option V} (hp : H' p ≠ none) (hne : p ≠ g) (l : T.lies H' p g) :
    EnvR T K ⟨H', fun b => if b = p ∨ b = g then none else H' b, some (p, g)⟩ (.nil :: .deck :: List.replicate n .nil) (some (p, g)) (fun b => if b = p ∨ b = g then none else H' b) H' (x :: some (.ref p) :: List.replicate n none) where
  fin := by
    refine ⟨⟨fun b o h => ?_, fun b m => if_pos m, fun p' g' e => ?_⟩, Same.refl _, fun b o h _ => h, fun b h h' => absurd h h', .inr rfl, fun e => nomatch e⟩
    · by_cases c : b = p ∨ b = g
      · rw [if_pos c] at h; cases h
      · rw [if_neg c] at h; exact h
    · cases e
      exact ⟨hne, l⟩
  len := by simp
  slots := fun i s e => by
    match i, e with
    | 0, e =>
      cases e
      exact ⟨x, rfl, trivial⟩
    | 1, e =>
      cases e
      exact ⟨_, rfl, p, g, rfl, rfl⟩
    | i + 2, e =>
      have e' : (List.replicate n Slot.nil)[i]? = some s := e
      rw [List.getElem?_replicate] at e'
      split at e'
      · rename_i hc
        cases e'
        exact ⟨none, by show (List.replicate n (none : Option V))[i]? = some none; rw [List.getElem?_replicate, if_pos hc], trivial⟩
      · cases e'
  dist := fun i j ds es q e1 _ _ _ => by
    match i, e1 with
    | 0, e => cases e
    | 1, e => cases e
    | i + 2, e =>
      have e' : (List.replicate n Slot.nil)[i]? = some (.own ds) := e
      rw [List.getElem?_replicate] at e'
      split at e' <;> cases e'
  fresh := fun i ds q e1 _ => by
    match i, e1 with
    | 0, e => cases e
    | 1, e => cases e
    | i + 2, e =>
      have e' : (List.replicate n Slot.nil)[i]? = some (.own ds) := e
      rw [List.getElem?_replicate] at e'
      split at e' <;> cases e'
  d2 := D2.none fun i t kvs e1 => by
    match i, e1 with
    | 0, e => cases e
    | 1, e => cases e
    | i + 2, e =>
      have e' : (List.replicate n Slot.nil)[i]? = some (.dct t kvs) := e
      rw [List.getElem?_replicate] at e'
      split at e' <;> cases e'
/-- slots of the law behind its first statement -/
def lawD (n : Nat) : Envd := .nil :: .deck :: List.replicate n .nil
/-- what is left of the law's body is shown over data -/
theorem law_rest {T : DKd} {X : Cx} {sts : List Stmt} {t : DTS} {n : Nat} (h : DSs T X sts t) (q : t { nx := fun _ => False, rt := fun d => d = .bool true } (lawD n)) :
    ∃ tt, PSs X sts tt ∧ ∀ (H' : Hp) (p g : Addr) (x : Option V) (Q : VK), H' p ≠ none → p ≠ g → T.lies H' p g → (∀ H'', Q (.bl true) H'') → tt { nx := fun _ H'' => Q .non H'', rt := Q } (x :: some (.ref p) :: List.replicate n none) H' := by
  refine ⟨_, h.ps, fun H' p g x Q hp hne l hQ => ?_⟩
  refine ⟨_, _, _, _, _, env_made hp hne l, q, fun _ _ _ _ _ z => z.elim, fun d v dk1 HS1 H1 z F1 rv => ?_, fun _ _ _ _ _ z => z.elim, fun _ _ _ _ _ z => z.elim⟩
  have z' : d = .bool true := z
  subst z'
  cases rv
  exact hQ H1
end DL
namespace DL
open PySem PySem.Spec PyProof.Rows L2
/-- a def of the text that is called: where it stands, what it promises -/
structure Cal (Pg : Program) (w : World) (K : PySem.W.Frag) (mg : Str → Option Value) (base : Heap) (T : DKd) (j : Nat) (x : Str) (st : Stmt) (ps : List Str) (spd : SpD) : Prop where
  it : ∃ f fd, Fun K x x st f fd ∧ FnG Pg w K mg base CX0 j f fd ps (lSp T K spd) ∧ mg x = some (.ref f) ∧ Binds K fd ps []
section
variable {T : DKd} {X : Cx} {e : Expr} {es : List Expr} {t tk : DT (List Ar)} {pos p : Pos} {x : Str} {j : Nat} {st : Stmt} {ps ks : List Str} {spd : SpD} {kws : List Keyword} {pm : List Nat}
theorem dc (c : Cal X.prog X.w X.K X.mg X.base T j x st ps spd) (hr : Room j X.A) (hgd : X.A.guards = some []) (hg : Gl X x) (ha : DA T X (e :: es) t) (hdb : (x == ("__debug__" : Str)) = false := by decide)
    (he : starEach (e :: es) X.env = (false, eval e X.env) :: starEach es X.env := by rfl) (hpl : (backTo pos (starEach es X.env)).any (·.1) = false := by rfl) : DE T X (.Call (.Name x p) (e :: es) [] pos) (xCall spd t) := by
  obtain ⟨f, fd, F, G, hm, hb⟩ := c.it
  exact d_call G hr hgd hg hm F.kp hb ha hdb he hpl
theorem dc0 (c : Cal X.prog X.w X.K X.mg X.base T j x st ps spd) (hr : Room j X.A) (hgd : X.A.guards = some []) (hg : Gl X x) (hdb : (x == ("__debug__" : Str)) = false := by decide) : DE T X (.Call (.Name x p) [] [] pos) (xCall spd xNil) := by
  obtain ⟨f, fd, F, G, hm, hb⟩ := c.it
  exact d_call0 G hr hgd hg hm F.kp hb hdb
theorem dck (ks : List Str) (pm : List Nat) (c : Cal X.prog X.w X.K X.mg X.base T j x st ps spd) (hr : Room j X.A) (hgd : X.A.guards = some []) (hg : Gl X x) (ha : DA T X (e :: es) t) (hkw : DK T X kws tk)
    (hb : ∀ (kV doc mo : Value) (an : Option Addr) (cdv ct : Value) (us ws : List Value), us.length = es.length + 1 → ws.length = ks.length → bindArgs (PySem.W.fnOf x x (defArgs st) (defBody st) (defScope st) .none kV doc mo an cdv ct) ⟨us, ks.zip ws⟩ = pure (ps.zip (pickL pm (us ++ ws))))
    (hall : (backToKw pos (keywordEach kws X.env)).all (·.1.isSome) = true := by rfl) (hks : (backToKw pos (keywordEach kws X.env)).filterMap (·.1) = ks := by rfl)
    (hlk : kws.length = ks.length := by rfl) (hdb : (x == ("__debug__" : Str)) = false := by decide) (he : starEach (e :: es) X.env = (false, eval e X.env) :: starEach es X.env := by rfl)
    (hpl : ((backTo pos (starEach (e :: es) X.env)).any (·.1) || (backToKw pos (keywordEach kws X.env)).any (·.1.isNone)) = false := by rfl) : DE T X (.Call (.Name x p) (e :: es) kws pos) (xCallK spd pm t tk) := by
  obtain ⟨f, fd, F, G, hm, _⟩ := c.it
  exact d_callK G hr hgd hg hm F.kp (kb_of F hb) ha hkw hall hks hlk hdb he hpl
theorem dck0 (ks : List Str) (pm : List Nat) (c : Cal X.prog X.w X.K X.mg X.base T j x st ps spd) (hr : Room j X.A) (hgd : X.A.guards = some []) (hg : Gl X x) (hkw : DK T X kws tk)
    (hb : ∀ (kV doc mo : Value) (an : Option Addr) (cdv ct : Value) (us ws : List Value), us.length = 0 → ws.length = ks.length → bindArgs (PySem.W.fnOf x x (defArgs st) (defBody st) (defScope st) .none kV doc mo an cdv ct) ⟨us, ks.zip ws⟩ = pure (ps.zip (pickL pm (us ++ ws))))
    (hall : (backToKw pos (keywordEach kws X.env)).all (·.1.isSome) = true := by rfl) (hks : (backToKw pos (keywordEach kws X.env)).filterMap (·.1) = ks := by rfl)
    (hlk : kws.length = ks.length := by rfl) (hdb : (x == ("__debug__" : Str)) = false := by decide)
    (hpl : ((backTo pos (starEach [] X.env)).any (·.1) || (backToKw pos (keywordEach kws X.env)).any (·.1.isNone)) = false := by rfl) : DE T X (.Call (.Name x p) [] kws pos) (xCallK spd pm xNil tk) := by
  obtain ⟨f, fd, F, G, hm, _⟩ := c.it
  exact d_callK0 G hr hgd hg hm F.kp (kb_of F hb) hkw hall hks hlk hdb hpl
end
theorem cal_mk {T : DKd} {Pg : Program} {w : World} {K : PySem.W.Frag} {mg : Str → Option Value} {base : Heap} {k : Nat} {f : Addr} {x : Str} {st : Stmt} {fd : FuncData} {N ps : List Str} {spd : SpD} (F : Fun K x x st f fd) (hm : mg x = some (.ref f)) (S : FnScope N ps (defScope st))
    (hbi : ∀ (kV doc pm : Value) (an : Option Addr) (cdv ct : Value) (us : List Value), us.length = ps.length → bindArgs (PySem.W.fnOf x x (defArgs st) (defBody st) (defScope st) .none kV doc pm an cdv ct) ⟨us, []⟩ = pure (ps.zip us))
    (len : ∀ as P, spd as P → as.length = ps.length)
    (hbody : ∀ (cdv : Value) (A : Around) (outer : List Env) (s : Shared) (H : Hp) (E : XK), Room k (A.deeper (envOfC x (defScope st) s.heap.objs.size f cdv)) → (A.deeper (envOfC x (defScope st) s.heap.objs.size f cdv)).guards = some [] →
      ∃ t, DSs T (cxOf CX0 Pg w K mg base N x (defScope st) f cdv A outer s H E).nox (defBody st) t ∧ ∀ as P, spd as P → t { nx := fun _ => P .none, rt := P } (startD N.length as)) : Cal Pg w K mg base T (k + 1) x st ps spd :=
  ⟨f, fd, F, gd_of F S len hbody, hm, F.binds hbi⟩
theorem cal_of {T : DKd} {Pg : Program} {w : World} {K : PySem.W.Frag} {mg : Str → Option Value} {base : Heap} {k : Nat} {f : Addr} {x : Str} {st : Stmt} {fd : FuncData} {ps : List Str} {spd : SpD} (F : Fun K x x st f fd) (hm : mg x = some (.ref f))
    (hbi : ∀ (kV doc pm : Value) (an : Option Addr) (cdv ct : Value) (us : List Value), us.length = ps.length → bindArgs (PySem.W.fnOf x x (defArgs st) (defBody st) (defScope st) .none kV doc pm an cdv ct) ⟨us, []⟩ = pure (ps.zip us))
    (G : FnG Pg w K mg base CX0 k f fd ps (lSp T K spd)) : Cal Pg w K mg base T k x st ps spd := ⟨f, fd, F, G, hm, F.binds hbi⟩
/-- the def that makes the source -/
structure CalMk (Pg : Program) (w : World) (K : PySem.W.Frag) (mg : Str → Option Value) (base : Heap) (T : DKd) (j : Nat) (x : Str) : Prop where
  it : ∃ f fd, FnG Pg w K mg base CX0 j f fd ["script"] (spMk T K) ∧ mg x = some (.ref f) ∧ PySem.W.keepIn K (.ref f) = true ∧ Binds K fd ["script"] []
/-- THE LAW: its first statement makes the source, the rest is shown over data -/
theorem law_ok {T : DKd} {Pg : Program} {w : World} {K : PySem.W.Frag} {mg : Str → Option Value} {base : Heap} {j k n : Nat} {f : Addr} {st : Stmt} {fd : FuncData} {N : List Str} {xm y : Str} {py p1 p2 p3 pos : Pos} {rest : List Stmt} (F : Fun K "law" "law" st f fd) (S : FnScope N ["script"] (defScope st))
    (c : CalMk Pg w K mg base T j xm) (hj : j ≤ k) (hb : defBody st = .Assign [.Name y py] (.Call (.Name xm p1) [.Name "script" p2] [] p3) pos :: rest) (hn : N.length = n + 2) (h0 : N[0]? = some ("script" : Str)) (h1 : N[1]? = some y) (hne : (xm == ("__debug__" : Str)) = false)
    (hgl : (defScope st).names.lookup xm = some .globalImplicit) (hv : (defScope st).names.lookup ("script" : Str) = some .local) (hy : Loc (defScope st) y)
    (hbody : ∀ (cdv : Value) (A : Around) (outer : List Env) (s : Shared) (H : Hp) (E : XK), Room k (A.deeper (envOfC "law" (defScope st) s.heap.objs.size f cdv)) → (A.deeper (envOfC "law" (defScope st) s.heap.objs.size f cdv)).guards = some [] →
      ∃ t, DSs T (cxOf CX0 Pg w K mg base N "law" (defScope st) f cdv A outer s H E).nox rest t ∧ t { nx := fun _ => False, rt := fun d => d = .bool true } (lawD n)) : FnG Pg w K mg base CX0 (k + 1) f fd ["script"] (spLaw K) := by
  refine gn_of F S (fun vs H Q E ⟨a, ns, e, _⟩ => by rw [e]; rfl) fun cdv A outer s H vs Q E hr hgd ⟨a, ns, e, hS, hlen, hQ⟩ => ?_
  obtain ⟨t, ht, q⟩ := hbody cdv A outer s H E hr hgd
  obtain ⟨fm, fdm, G, gm, km, bm⟩ := c.it
  obtain ⟨tt, hps, hfin⟩ := law_rest (n := n) ht q
  rw [hb]
  subst e
  have hcall : PE (cxOf CX0 Pg w K mg base N "law" (defScope st) f cdv A outer s H E).nox (.Call (.Name xm p1) [.Name "script" p2] [] p3) (fun σ H Q => σ[0]? = some (some (.ref a)) ∧ SqL K H a (ns.map V.int) ∧ ∀ (p g : Addr) (H' : Hp), Same H H' → H p = none → H g = none → p ≠ g → T.lies H' p g → Q (.ref p) H') := by
    refine ⟨fun pins s2 σ H2 Q2 I h => ?_⟩
    obtain ⟨e1, hs2, hq⟩ := h
    refine wpAny_Call_Name_kw (ld_glob I (show Gl _ xm from hgl) gm ?_ hne)
    have ha : PA (cxOf CX0 Pg w K mg base N "law" (defScope st) f cdv A outer s H E).nox [.Name "script" p2] (tCons (tVar 0) tNil) := pa_cons (pe_var h0 (Or.inl hv)) pa_nil
    refine PySem.W.callWith_K (h₀ := base) I.ok.mod.kin km (thn (ha.run p3 pins s2 σ H2 (fun vs H1 => spMk T K vs H1 Q2 E0) I ⟨_, e1, a, ns, rfl, hs2, hlen, hq⟩) fun us s1 ⟨vs, H1, I1, r, q1⟩ => ⟨I1.kIn, ?_⟩) rfl rfl
    exact run_g (args := ⟨us, []⟩) G (hr.mono hj) hgd pass0 I1 (fun hl => by have z := bm s1 us I1.kIn (by rw [List.append_nil]; exact hl); rw [List.append_nil] at z; exact z) r q1
  refine ⟨_, PSs.nox (pss_cons (ps_set (i := 1) S.nd h1 hy hcall (hf := .inl rfl)) hps), ?_⟩
  have es : L2.start N [.ref a] = some (.ref a) :: none :: List.replicate n none := by
    unfold L2.start
    rw [hn]
    rfl
  rw [es]
  refine ⟨rfl, hS, fun p g H' sm np ng hne' l => ?_⟩
  exact hfin H' p g _ Q (T.fstS l) hne' l hQ
end DL

namespace DL
open PySem PySem.Spec PyProof.Rows L2
def xListRg1 (ta : DT D) : DT (List D) := fun ρ P => ta ρ fun d => ∃ j, d = .int j ∧ j.toNat ≤ 2 ^ 24 ∧ -(2 ^ 62) ≤ j ∧ j < 2 ^ 62 ∧ P (rangeD 0 j.toNat)
end DL

namespace DL
open PySem PySem.Spec PyProof.Rows L2
/-- the script, as the law meets it -/
theorem script_at {K : PySem.W.Frag} {P : Program} {w : World} {h : Heap} {a : Addr} {vs : List Value} {ns : List Int} (kx : K.In h) (ha : h.get? a = some { cls := .type "list", data := .seq vs.toArray }) (hi : IntsAre vs ns) (hl : ns.length ≤ sizeLine) :
    ∃ H : Hp, SqL K H a (ns.map V.int) ∧ HOk P w H h ∧ ∀ b, H b = none ∨ (b = a ∧ K.lookup a = none ∧ H b = some (.frz { cls := .type "list", data := .seq vs.toArray } (.lst (ns.map V.int)))) := by
  have rv := vals_ints hi
  have le := hi.length
  cases hk : K.lookup a with
  | some o =>
    have e := kx a o hk
    rw [ha] at e
    cases e
    refine ⟨fun _ => none, .inr ⟨_, vs.toArray, 0, hk, rfl, rfl, rfl, ?_, by simpa using rv⟩, fun b u z => (nomatch (show (none : Option HO) = some u from z)), fun b => .inl rfl⟩
    rw [List.size_toArray, le]
    exact hl
  | none =>
    obtain ⟨U, hU⟩ : ∃ U : HO, U = .frz { cls := .type "list", data := .seq vs.toArray } (.lst (ns.map V.int)) := ⟨_, rfl⟩
    have at_ : ∀ b, (upd (fun _ => none) a U) b = none ∨ (b = a ∧ (upd (fun _ => none) a U) b = some U) := fun b => by
      by_cases c : b = a
      · subst c; exact .inr ⟨rfl, upd_same⟩
      · exact .inl (by rw [upd_ne c])
    refine ⟨upd (fun _ => none) a U, .inl (.inr ⟨{ cls := .type "list", data := .seq vs.toArray }, by rw [upd_same, hU]⟩), fun b u z => ?_, fun b => ?_⟩
    · rcases at_ b with q | ⟨rfl, q⟩
      · rw [q] at z; cases z
      · rw [q] at z
        cases z
        rw [hU]
        exact ⟨ha, by rw [List.length_map]; exact hl, vs, 0, rv, ha⟩
    · rcases at_ b with q | ⟨rfl, q⟩
      · exact .inl q
      · exact .inr ⟨rfl, rfl, by rw [q, hU]⟩
theorem law_go {P : Program} {w : World} {K : PySem.W.Frag} {mg mb : Str → Option Value} {k : Nat} {fa a : Addr} {fd : FuncData} {s : Shared} {vs : List Value} {ns : List Int}
    (kx : K.In s.heap) (hns : s.heap.Ns mainGlobals mg) (hb : s.heap.Ns builtinsNs mb) (hbb : ∀ x : Str, x ≠ "__name__" → mb x = bootBuiltins x) (hlim : s.heap.NoLimit) (hg : s.gens = #[])
    (ha : s.heap.get? a = some { cls := .type "list", data := .seq vs.toArray }) (hi : IntsAre vs ns) (hl : ns.length ≤ 63) (hr : Room k callerA)
    (F : ∀ base : Heap, K.In base → base.Ns mainGlobals mg → FnG P w K mg base CX0 k fa fd ["script"] (spLaw K)) (hbind : ∀ (s : Shared) (u : Value), BindsTo s fd ⟨[u], []⟩ [("script", u)]) :
    codeAny (model P w) callerA (.call (.ref fa) ⟨[.ref a], []⟩) (fun r s' => r = .ok (.ret (.bool true)) ∧ OldK s.heap s'.heap ∧ s'.os = s.os ∧ AllBare s'.gens) s := by
  obtain ⟨H, hS, hok, hH⟩ := script_at (P := P) (w := w) kx ha hi (Nat.le_trans hl (by decide))
  have seen : ∀ {b : Addr} {o : Obj}, s.heap.get? b = some o → H b = none → (hidT s.heap H).get? b = some o := fun e n => hidT_get e n
  have dicts : ∀ {b : Addr} {m : Str → Option Value}, s.heap.Ns b m → (hidT s.heap H).Ns b m := fun {b m} ⟨o, es, ep, e, d, r⟩ => by
    refine ⟨o, es, ep, seen e ?_, d, r⟩
    rcases hH b with z | ⟨rfl, _, _⟩
    · exact z
    · rw [ha] at e
      cases e
      have d' : Data.seq vs.toArray _ = Data.dict es ep := d
      cases d'
  have kb : K.In (hidT s.heap H) := fun b o e => by
    refine seen (kx b o e) ?_
    rcases hH b with z | ⟨rfl, z, _⟩
    · exact z
    · rw [z] at e; cases e
  obtain ⟨mc, hc1, hc2⟩ := hlim
  have md : Mod K mg (hidT s.heap H) := ⟨kb, dicts hns, ⟨mb, dicts hb, hbb⟩, ⟨mc, dicts hc1, hc2⟩⟩
  have e0 : Env0 P w K mg (hidT s.heap H) callerA [] s H :=
    ⟨rfl, md, fun b o e => of_hidT e, Nat.le_of_eq (hidT_size _ _), trivial, fun b z => absurd (show b ∈ ([] : List Addr) from z) (by simp), hok, .of_eq hg⟩
  refine codeAny_mono ((F _ kb (dicts hns)).run callerA [] s H ⟨[.ref a], []⟩ [.ref a] [.ref a] (fun v _ => v = .bl true) (fun _ _ _ => False) hr rfl e0 (hbind s (.ref a)) (.cons rfl .nil) ⟨a, ns, rfl, hS, hl, fun _ => rfl⟩) ?_
  intro r s' h
  match r, h with
  | .error e, h => exact (show False from h).elim
  | .ok (.ret u), h =>
    obtain ⟨v, H', os, bare, un, hok', r', q⟩ := h
    have q' : v = .bl true := q
    subst q'
    obtain rfl : u = Value.bool true := r'
    refine ⟨rfl, OldK.of_keep fun b o e => ?_, os, bare⟩
    rcases hH b with z | ⟨rfl, _, z⟩
    · exact un.keep b o e z (fun y => absurd (show b ∈ ([] : List Addr) from y) (by simp)) (by simp)
    · obtain ⟨e1, _⟩ := hok' b _ (un.frzs b _ _ z)
      rw [ha] at e
      cases e
      exact e1
/-- THE END of a law's row -/
theorem walk_g {l : PySem.W.OpenLaw} {k : Nat} {q : Program} {loose : List Str} {XP : (Str → Option Value) → Heap → Prop} {YP : World → Heap → Prop} {d : DefRec} {K : Params → PySem.W.Frag}
    (hn : l.most = some 63) (hdf : d.params.defaults = []) (hr : Room k callerA) (hY : ∀ (w : World) (h : Heap), YP w h → (K w.params).In h)
    (F : ∀ (w : World) (mg : Str → Option Value) (fa : Addr) (h : Heap), (K w.params).In h → h.Ns mainGlobals mg → mg d.name = some (.ref fa) →
      ∃ fd : FuncData, (∀ (s : Shared) (u : Value), BindsTo s fd ⟨[u], []⟩ [("script", u)]) ∧ ∀ base : Heap, (K w.params).In base → base.Ns mainGlobals mg → FnG l.prog w (K w.params) mg base CX0 k fa fd ["script"] (spLaw (K w.params))) :
    PySem.W.WalkO q loose XP YP l.row.toRowW d [] (fun f vs => PySem.call f vs) := by
  refine Att.attach_call hn hdf ?_
  intro w s₀ s₁ mg mb fa o pm cd doc a vs ns G Y ho hd hcd hmg hobj hints hlen hgn
  have kx := hY w _ Y
  obtain ⟨fd, hb, hF⟩ := F w mg fa _ kx G.T.g hmg
  exact law_go kx G.T.g G.T.b G.T.builtins G.T.nolimit hgn hobj hints hlen hr hF hb
end DL

namespace DL
open PySem PySem.Spec PyProof.Rows L2

/-! ### loops and comprehensions by what holds behind each turn -/
theorem forL_inv {g : DTg} {b : DTS} {P : EndsD} (I : Nat → Envd → Prop) : ∀ (ds : List D) (k : Nat) (ρ : Envd), I k ρ →
    (∀ (i : Nat) (d : D) (ρ : Envd) (K : Envd → Prop), ds[i]? = some d → I (k + i) ρ → (∀ ρ', I (k + i + 1) ρ' → K ρ') → g d ρ fun ρ1 => b { P with nx := K, ct := K, bk := P.nx } ρ1) →
    (∀ ρ, I (k + ds.length) ρ → P.nx ρ) → forL g b P ds ρ
  | [], k, ρ, h0, _, hd => hd ρ h0
  | d :: ds, k, ρ, h0, hs, hd => hs 0 d ρ _ rfl h0 fun ρ' h' => forL_inv I ds (k + 1) ρ' h' (fun i d' ρ1 K e h1 h2 => hs (i + 1) d' ρ1 K e (by rw [show k + (i + 1) = k + 1 + i by omega]; exact h1) (fun ρ2 h3 => h2 ρ2 (by rw [show k + 1 + i + 1 = k + (i + 1) + 1 by omega]; exact h3)))
      fun ρ1 h1 => hd ρ1 (by rw [List.length_cons, show k + (ds.length + 1) = k + 1 + ds.length by omega]; exact h1)
theorem rangeD_len (lo : Int) (n : Nat) : (rangeD lo n).length = n := by unfold rangeD; simp
theorem rangeD_get {lo : Int} {n i : Nat} {d : D} (h : (rangeD lo n)[i]? = some d) : i < n ∧ d = .int (lo + (i : Int)) := by
  unfold rangeD at h
  rw [List.getElem?_map] at h
  by_cases hi : i < n
  · rw [List.getElem?_range hi] at h
    exact ⟨hi, (Option.some.inj h).symm⟩
  · rw [List.getElem?_eq_none (by simpa using hi)] at h
    cases h
/-- for i in range(lo, lo + n) -/
theorem for_rg {g : DTg} {b : DTS} {P : EndsD} {lo : Int} {n : Nat} {ρ : Envd} (I : Nat → Envd → Prop) (h0 : I 0 ρ)
    (hs : ∀ (i : Nat) (ρ : Envd) (K : Envd → Prop), i < n → I i ρ → (∀ ρ', I (i + 1) ρ' → K ρ') → g (.int (lo + (i : Int))) ρ fun ρ1 => b { P with nx := K, ct := K, bk := P.nx } ρ1)
    (hd : ∀ ρ, I n ρ → P.nx ρ) : forL g b P (rangeD lo n) ρ :=
  forL_inv I _ 0 ρ h0 (fun i d ρ K e h1 h2 => by
    obtain ⟨hi, rfl⟩ := rangeD_get e
    rw [Nat.zero_add] at h1 h2
    exact hs i ρ K hi h1 h2) fun ρ h => hd ρ (by rw [rangeD_len, Nat.zero_add] at h; exact h)
/-- for d in ds -/
theorem for_in {g : DTg} {b : DTS} {P : EndsD} {ds : List D} {ρ : Envd} (I : Nat → Envd → Prop) (h0 : I 0 ρ)
    (hs : ∀ (i : Nat) (d : D) (ρ : Envd) (K : Envd → Prop), ds[i]? = some d → I i ρ → (∀ ρ', I (i + 1) ρ' → K ρ') → g d ρ fun ρ1 => b { P with nx := K, ct := K, bk := P.nx } ρ1)
    (hd : ∀ ρ, I ds.length ρ → P.nx ρ) : forL g b P ds ρ :=
  forL_inv I _ 0 ρ h0 (fun i d ρ K e h1 h2 => by
    rw [Nat.zero_add] at h1 h2
    exact hs i d ρ K e h1 h2) fun ρ h => hd ρ (by rw [Nat.zero_add] at h; exact h)
theorem compL_inv {g : DTg} {tt : DT Bool} {te : DT D} {P : List D → Prop} {ρ : Envd} (I : Nat → List D → Prop) : ∀ (ds : List D) (k : Nat) (acc : List D), I k acc →
    (∀ (i : Nat) (d : D) (acc : List D) (K : List D → Prop), ds[i]? = some d → I (k + i) acc → (∀ acc', I (k + i + 1) acc' → K acc') → g d ρ fun ρ1 => tt ρ1 fun b => if b = true then te ρ1 fun y => acc.length < sizeLine ∧ K (acc ++ [y]) else K acc) →
    (∀ acc, I (k + ds.length) acc → P acc) → compL g tt te P ρ ds acc
  | [], k, acc, h0, _, hd => hd acc h0
  | d :: ds, k, acc, h0, hs, hd => hs 0 d acc _ rfl h0 fun acc' h' => compL_inv I ds (k + 1) acc' h' (fun i d' a1 K e h1 h2 => hs (i + 1) d' a1 K e (by rw [show k + (i + 1) = k + 1 + i by omega]; exact h1) (fun a2 h3 => h2 a2 (by rw [show k + 1 + i + 1 = k + (i + 1) + 1 by omega]; exact h3)))
      fun a1 h1 => hd a1 (by rw [List.length_cons, show k + (ds.length + 1) = k + 1 + ds.length by omega]; exact h1)
/-- [e for x in ds]: each item told at once -/
theorem comp_map {g : DTg} {te : DT D} {P : List D → Prop} {ρ : Envd} {ds : List D} (f : D → D) (hl : ds.length ≤ sizeLine) (hs : ∀ d ∈ ds, ∀ K : D → Prop, K (f d) → g d ρ fun ρ1 => te ρ1 K) (h : P (ds.map f)) : compL g xYes te P ρ ds [] := by
  refine compL_inv (fun i acc => acc = (ds.take i).map f) ds 0 [] rfl (fun i d acc K e h1 h2 => ?_) fun acc h1 => ?_
  · rw [Nat.zero_add] at h1 h2
    have hi : i < ds.length := (List.getElem?_eq_some_iff.mp e).1
    refine hs d (List.mem_of_getElem? e) _ ⟨?_, h2 _ ?_⟩
    · rw [h1, List.length_map, List.length_take]; omega
    · rw [h1, List.take_add_one, e, List.map_append]; rfl
  · rw [Nat.zero_add, List.take_length] at h1
    rw [h1]; exact h
/-- [e for i in range(lo, lo + n)] -/
theorem comp_rg {g : DTg} {te : DT D} {P : List D → Prop} {ρ : Envd} {lo : Int} {n : Nat} (f : Nat → D) (hl : n ≤ sizeLine) (hs : ∀ i, i < n → ∀ K : D → Prop, K (f i) → g (.int (lo + (i : Int))) ρ fun ρ1 => te ρ1 K) (h : P ((List.range n).map f)) : compL g xYes te P ρ (rangeD lo n) [] := by
  refine compL_inv (fun i acc => acc = (List.range i).map f) (rangeD lo n) 0 [] rfl (fun i d acc K e h1 h2 => ?_) fun acc h1 => ?_
  · rw [Nat.zero_add] at h1 h2
    obtain ⟨hi, rfl⟩ := rangeD_get e
    refine hs i hi _ ⟨?_, h2 _ ?_⟩
    · rw [h1, List.length_map, List.length_range]; omega
    · rw [h1, List.range_succ, List.map_append]; rfl
  · rw [Nat.zero_add, rangeD_len] at h1
    rw [h1]; exact h
/-- [e for x in ds if t]: items that pass are told at once -/
theorem comp_filter {g : DTg} {tt : DT Bool} {te : DT D} {P : List D → Prop} {ρ : Envd} {ds : List D} (p : D → Bool) (f : D → D) (hl : ds.length ≤ sizeLine)
    (hs : ∀ d ∈ ds, ∀ (K : D → Prop) (L : Prop), (p d = true → K (f d)) → (p d = false → L) → g d ρ fun ρ1 => tt ρ1 fun b => if b = true then te ρ1 K else L) (h : P ((ds.filter p).map f)) : compL g tt te P ρ ds [] := by
  refine compL_inv (fun i acc => acc = ((ds.take i).filter p).map f) ds 0 [] rfl (fun i d acc K e h1 h2 => ?_) fun acc h1 => ?_
  · rw [Nat.zero_add] at h1 h2
    have hi : i < ds.length := (List.getElem?_eq_some_iff.mp e).1
    have hlen : acc.length ≤ i := by
      rw [h1, List.length_map]
      exact Nat.le_trans (List.length_filter_le _ _) (by rw [List.length_take]; omega)
    refine hs d (List.mem_of_getElem? e) _ _ (fun hp => ⟨by omega, h2 _ ?_⟩) fun hp => h2 _ ?_
    · rw [h1, List.take_add_one, e, List.filter_append, List.map_append]
      simp [hp]
    · rw [h1, List.take_add_one, e, List.filter_append, List.map_append]
      simp [hp]
  · rw [Nat.zero_add, List.take_length] at h1
    rw [h1]; exact h

/-! ### tests of ints -/
theorem okD_int (i : Int) : okD (.int i) = true := rfl
theorem cEq_int (i j : Int) : cEq (.int i) (.int j) = some (decide (i = j)) := by
  have h : cEq (.int i) (.int j) = if okD (.int i) = true ∧ okD (.int j) = true then some (PyData.eqv (.int i) (.int j)) else none := by simp only [cEq]
  rw [h, if_pos ⟨okD_int i, okD_int j⟩]
  show some (i == j) = _
  rw [Bool.beq_eq_decide_eq]
theorem cNe_int (i j : Int) : cNe (.int i) (.int j) = some (!decide (i = j)) := by
  have h : cNe (.int i) (.int j) = if okD (.int i) = true ∧ okD (.int j) = true then some (!PyData.eqv (.int i) (.int j)) else none := by simp only [cNe]
  rw [h, if_pos ⟨okD_int i, okD_int j⟩]
  show some (!(i == j)) = _
  rw [Bool.beq_eq_decide_eq]
theorem cNe_str (a : Str) : cNe (.str a) (.str a) = some false := by
  have h : cNe (.str a) (.str a) = some (!decide (a = a)) := by simp only [cNe]
  rw [h, decide_eq_true rfl]
  rfl
theorem ite_dec {c A B : Prop} [Decidable c] (h1 : c → A) (h2 : ¬ c → B) : if decide c = true then A else B := by
  by_cases h : c
  · rw [if_pos (decide_eq_true h)]; exact h1 h
  · rw [if_neg (by rw [decide_eq_false h]; decide)]; exact h2 h
theorem ite_ndec {c A B : Prop} [Decidable c] (h1 : ¬ c → A) (h2 : c → B) : if (!decide c) = true then A else B := by
  by_cases h : c
  · rw [if_neg (by rw [decide_eq_true h]; decide)]; exact h2 h
  · rw [if_pos (by rw [decide_eq_false h]; rfl)]; exact h1 h

/-! ### data whose text is told by repr -/
mutual
/-- plain data: nothing, bools, ints below 2^b, lists and tuples -/
def smallD (b : Nat) : D → Bool
  | .none => true
  | .bool _ => true
  | .int i => decide (i.natAbs < 2 ^ b)
  | .str x => x.cps.toList.all fun c => decide (c < 16 ^ 8)
  | .list ds => smallsD b ds
  | .tuple ds => smallsD b ds
  | .dict [] => true
  | .dict [(.str x, .int i)] => (x.cps.toList.all fun c => decide (c < 16 ^ 8)) && decide (i.natAbs < 2 ^ b)
  | _ => false
def smallsD (b : Nat) : List D → Bool
  | [] => true
  | d :: ds => smallD b d && smallsD b ds
end
theorem shown_int (b : Nat) (hb : 0 < b) (i : Int) (h : i.natAbs < 2 ^ b) : (PyData.shown (.int i)).length ≤ b + 8 := by
  have e := int_text_length_le (a := i) hb (PySem.Flt.log2_lt_of hb h)
  show (Str.ofString (toString i)).length ≤ b + 8
  rw [PySem.ofString_length]
  omega
mutual
theorem small_leaves (b : Nat) (hb : 0 < b) : ∀ d : D, smallD b d = true → d.leavesShort (b + 8) = true
  | .none, _ => rfl
  | .bool _, _ => rfl
  | .int i, h => decide_eq_true (shown_int b hb i (of_decide_eq_true h))
  | .list ds, h => smalls_leaves b hb ds h
  | .tuple ds, h => smalls_leaves b hb ds h
  | .str _, h => h
  | .dict [], _ => rfl
  | .dict [(.str x, .int i)], h => by
    have h' : ((x.cps.toList.all fun c => decide (c < 16 ^ 8)) && decide (i.natAbs < 2 ^ b)) = true := h
    obtain ⟨h1, h2⟩ := Bool.and_eq_true_iff.mp h'
    show ((x.cps.toList.all fun c => decide (c < 16 ^ 8)) && decide ((PyData.shown (.int i)).length ≤ b + 8) && true) = true
    rw [h1, decide_eq_true (shown_int b hb i (of_decide_eq_true h2))]
    rfl
theorem smalls_leaves (b : Nat) (hb : 0 < b) : ∀ ds : List D, smallsD b ds = true → PyData.leavesShortAll (b + 8) ds = true
  | [], _ => rfl
  | d :: ds, h => by
    have h' : smallD b d = true ∧ smallsD b ds = true := by simpa [smallsD] using h
    show (d.leavesShort (b + 8) && PyData.leavesShortAll (b + 8) ds) = true
    rw [small_leaves b hb d h'.1, smalls_leaves b hb ds h'.2]
    rfl
end
mutual
theorem small_show (b : Nat) (hb : b ≤ 1920) (h0 : 0 < b) : ∀ d : D, smallD b d = true → d.showable = true
  | .none, _ => rfl
  | .bool _, _ => rfl
  | .int i, h => by
    have h' : i.natAbs < 2 ^ b := of_decide_eq_true h
    show decide (i.natAbs.log2 < 1920) = true
    exact decide_eq_true (Nat.lt_of_lt_of_le (PySem.Flt.log2_lt_of h0 h') hb)
  | .list ds, h => smalls_show b hb h0 ds h
  | .tuple ds, h => smalls_show b hb h0 ds h
  | .str _, h => rfl
  | .dict [], _ => rfl
  | .dict [(.str x, .int i)], h => by
    have h' : ((x.cps.toList.all fun c => decide (c < 16 ^ 8)) && decide (i.natAbs < 2 ^ b)) = true := h
    obtain ⟨h1, h2⟩ := Bool.and_eq_true_iff.mp h'
    show (true && decide (i.natAbs.log2 < 1920) && true) = true
    rw [decide_eq_true (Nat.lt_of_lt_of_le (PySem.Flt.log2_lt_of h0 (of_decide_eq_true h2)) hb)]
    rfl
theorem smalls_show (b : Nat) (hb : b ≤ 1920) (h0 : 0 < b) : ∀ ds : List D, smallsD b ds = true → PyData.showableAll ds = true
  | [], _ => rfl
  | d :: ds, h => by
    have h' : smallD b d = true ∧ smallsD b ds = true := by simpa [smallsD] using h
    show (d.showable && PyData.showableAll ds) = true
    rw [small_show b hb h0 d h'.1, smalls_show b hb h0 ds h'.2]
    rfl
end
/-- repr takes it -/
def RepOk (d : D) : Prop := d.showable = true ∧ d.depth ≤ 60 ∧ d.shown.length ≤ sizeLine ∧ dictOk d = true
theorem dictOk_of {d : D} (h : d.hasDict = false) : dictOk d = true := by unfold dictOk; rw [h]; rfl
theorem repOk_of (b : Nat) (h0 : 0 < b) (hb : b ≤ 1920) {d : D} (h : smallD b d = true) (hd : d.depth ≤ 60) (hw : (b + 10) * d.bulk + b + 8 ≤ 16777216) (hok : dictOk d = true) : RepOk d := by
  refine ⟨small_show b hb h0 d h, hd, ?_, hok⟩
  have z := PyData.shown_le_bulk (b + 8) (by omega) d (small_leaves b h0 d h)
  have e : sizeLine = 16777216 := sizeLine_eq
  rw [e]
  rw [show b + 8 + 2 = b + 10 by omega] at z
  omega
theorem fRepr_list {ds : List D} (h : RepOk (.list ds)) : fRepr [.list ds] = some (.str (PyData.list ds).shown) := if_pos h
theorem fRepr_tup {ds : List D} (h : RepOk (.tuple ds)) : fRepr [.tuple ds] = some (.str (PyData.tuple ds).shown) := if_pos h
theorem fRepr_int {i : Int} (h : i.natAbs.log2 < 1920) : fRepr [.int i] = some (.str (toString i)) := if_pos h
/-- repr(x) != repr(x), lists -/
theorem repr_same {x : D} {P : Prop} (hx : (∃ ds, x = .list ds) ∨ ∃ ds, x = .tuple ds) (h : RepOk x) (hP : P) : ∃ z, fRepr [x] = some z ∧ ∃ z2, fRepr [x] = some z2 ∧ ∃ b, cNe z z2 = some b ∧ (b = false ∧ P) := by
  rcases hx with ⟨ds, rfl⟩ | ⟨ds, rfl⟩
  · exact ⟨_, fRepr_list h, _, fRepr_list h, _, cNe_str _, rfl, hP⟩
  · exact ⟨_, fRepr_tup h, _, fRepr_tup h, _, cNe_str _, rfl, hP⟩
end DL

namespace DL
open PySem PySem.Spec PyProof.Rows L2

/-! ### what the operators answer at ints -/
theorem mulOk_l {a b : Int} (h1 : -(2 ^ 64) < a) (h2 : a < 2 ^ 64) : MulOk a b := .inl (.inl ⟨h1, h2⟩)
theorem mulOk_r {a b : Int} (h1 : -(2 ^ 64) < b) (h2 : b < 2 ^ 64) : MulOk a b := .inl (.inr ⟨h1, h2⟩)
theorem log2_bd {n m : Nat} (h : n < 2 ^ m) : n.log2 ≤ m := by
  by_cases e : n = 0
  · subst e; show Nat.log2 0 ≤ m; rw [Nat.log2_zero]; exact Nat.zero_le _
  · exact Nat.le_of_lt ((Nat.log2_lt e).mpr h)
theorem mulOk_w {a b : Int} (m n : Nat) (ha : a.natAbs < 2 ^ m) (hb : b.natAbs < 2 ^ n) (h : m + n < 1000000) : MulOk a b := .inr (Nat.lt_of_le_of_lt (Nat.add_le_add (log2_bd ha) (log2_bd hb)) h)
theorem divOk_of {b : Int} (h : 0 < b) (h2 : b < 2 ^ 64) : DivOk b := ⟨h, Nat.lt_of_le_of_lt (log2_bd (m := 64) (by omega)) (by decide)⟩
theorem divOk_w {b : Int} (m : Nat) (h : 0 < b) (h2 : b.natAbs < 2 ^ m) (hm : m < 9000) : DivOk b := ⟨h, Nat.lt_of_le_of_lt (log2_bd h2) hm⟩
theorem powOk_of {a b : Int} (h0 : 0 ≤ b) (h1 : b ≤ 1000000) (h2 : a.natAbs < 2 ^ 64) : PowOk a b := ⟨h0, h1, h2⟩
theorem oMul_int {a b : Int} (h : MulOk a b) : oMul (.int a) (.int b) = some (.int (a * b)) := by
  simp only [oMul]; exact if_pos h
theorem oDiv_int {a b : Int} (h : DivOk b) : oDiv (.int a) (.int b) = some (.int (a / b)) := by
  simp only [oDiv]; exact if_pos h
theorem oMod_int {a b : Int} (h : 0 < b) : oMod (.int a) (.int b) = some (.int (a % b)) := by
  simp only [oMod]; exact if_pos h
theorem oPow_int {a b : Int} (h : PowOk a b) : oPow (.int a) (.int b) = some (.int (a ^ b.toNat)) := by
  simp only [oPow]; exact if_pos h
theorem oShl_int {a b : Int} (h : PowOk a b) : oShl (.int a) (.int b) = some (.int (a * 2 ^ b.toNat)) := by
  simp only [oShl]; exact if_pos h
theorem oShr_int {a b : Int} (h : 0 ≤ b) : oShr (.int a) (.int b) = some (.int (a / 2 ^ b.toNat)) := by
  simp only [oShr]; exact if_pos h
theorem oAdd_list {a b : List D} (h : a.length + b.length ≤ sizeLine) : oAdd (.list a) (.list b) = some (.list (a ++ b)) := by
  simp only [oAdd]; exact if_pos h
theorem oAdd_tup {a b : List D} (h : a.length + b.length ≤ sizeLine) : oAdd (.tuple a) (.tuple b) = some (.tuple (a ++ b)) := by
  simp only [oAdd]; exact if_pos h
theorem oAdd_str {a b : Str} (h : a.length + b.length ≤ sizeLine) : oAdd (.str a) (.str b) = some (.str (a ++ b)) := by
  simp only [oAdd]; exact if_pos h
theorem fMax_int (i j : Int) : fMax' [.int i, .int j] = some (.int (max i j)) := by
  have h : fMax' [.int i, .int j] = some (.int (if j > i then j else i)) := rfl
  rw [h, show (if j > i then j else i) = max i j by omega]
theorem fMin_int (i j : Int) : fMin' [.int i, .int j] = some (.int (min i j)) := by
  have h : fMin' [.int i, .int j] = some (.int (if j < i then j else i)) := rfl
  rw [h, show (if j < i then j else i) = min i j by omega]
theorem cNe_eq {i j : Int} (h : i = j) : cNe (.int i) (.int j) = some false := by
  rw [cNe_int, decide_eq_true h]; rfl
theorem cEq_eq {i j : Int} (h : i = j) : cEq (.int i) (.int j) = some true := by
  rw [cEq_int, decide_eq_true h]
theorem cNe_of {d e : D} (h : d = e) (hok : okD d = true) : cNe d e = some false := by
  subst h
  have er : PyData.eqv d d = true := SeqAt.eqv_refl d (SeqAt.canLay_of_shaped hok)
  cases d <;> first | exact cNe_str _ | (simp only [cNe]; rw [if_pos ⟨hok, hok⟩, er]; rfl)
theorem cEq_of {d e : D} (h : d = e) (hok : okD d = true) : cEq d e = some true := by
  subst h
  have er : PyData.eqv d d = true := SeqAt.eqv_refl d (SeqAt.canLay_of_shaped hok)
  cases d <;> first | (simp only [cEq]; rw [if_pos ⟨hok, hok⟩, er]; done) | (simp only [cEq]; rfl)
theorem oIx_lastf {α : Type} {l : List α} {g : α → D} {x : α} (h : l.getLast? = some x) : oIx (.list (l.map g)) (.int (-1)) = some (g x) := by
  have hl : 0 < l.length := by
    cases l with
    | nil => cases h
    | cons a r => exact Nat.succ_pos _
  show atI (l.map g) (-1) = _
  unfold atI ixN
  rw [if_neg (by decide), if_pos (by rw [List.length_map]; omega)]
  show (l.map g)[(-1 + ((l.map g).length : Int)).toNat]? = _
  rw [List.length_map, show (-1 + (l.length : Int)).toNat = l.length - 1 by omega, List.getElem?_map, ← List.getLast?_eq_getElem?, h]
  rfl
theorem intsOf_mapf {α : Type} (g : α → Int) : ∀ l : List α, intsOf (l.map fun x => .int (g x)) = some (l.map g)
  | [] => rfl
  | x :: r => by
    show (intsOf (r.map fun x => .int (g x))).map (g x :: ·) = _
    rw [intsOf_mapf g r]
    rfl
theorem fSum_map {α : Type} (g : α → Int) (l : List α) : fSum' [.list (l.map fun x => .int (g x))] = some (.int (l.map g).sum) := by
  show (intsOf (l.map fun x => .int (g x))).map (fun ns => PyData.int ns.sum) = _
  rw [intsOf_mapf]
  rfl
theorem fSum_mapT {α : Type} (g : α → Int) (l : List α) : fSum' [.tuple (l.map fun x => .int (g x))] = some (.int (l.map g).sum) := by
  show (intsOf (l.map fun x => .int (g x))).map (fun ns => PyData.int ns.sum) = _
  rw [intsOf_mapf]
  rfl
theorem one_le_line : (1 : Nat) ≤ sizeLine := by rw [sizeLine_eq]; decide
theorem le_line {n : Nat} (h : n ≤ 1000000) : n ≤ sizeLine := by rw [sizeLine_eq]; omega
theorem lt_line {n : Nat} (h : n ≤ 1000000) : n < sizeLine := by rw [sizeLine_eq]; omega
theorem pow_bd {n : Nat} {m : Nat} (h : n ≤ m) : (2 : Int) ^ n ≤ 2 ^ m := by
  have := Nat.pow_le_pow_right (n := 2) (by decide) h
  have e1 : ((2 ^ n : Nat) : Int) = (2 : Int) ^ n := by norm_cast
  have e2 : ((2 ^ m : Nat) : Int) = (2 : Int) ^ m := by norm_cast
  omega
theorem pow_pos' (n : Nat) : (0 : Int) < 2 ^ n := Int.pow_pos (by decide)
theorem atI_nat {α : Type} {ds : List α} {i : Int} {m : Nat} {d : α} (hi : i = (m : Int)) (h : ds[m]? = some d) : atI ds i = some d := by
  have hm : m < ds.length := (List.getElem?_eq_some_iff.mp h).1
  unfold atI ixN
  rw [if_pos (show (0 : Int) ≤ i by omega), if_pos (show i < (ds.length : Int) by omega)]
  show ds[i.toNat]? = _
  rw [show i.toNat = m by omega]
  exact h
/-- a list's item by number -/
theorem oIx_list {ds : List D} {i : Int} {m : Nat} {d : D} (hi : i = (m : Int)) (h : ds[m]? = some d) : oIx (.list ds) (.int i) = some d := atI_nat hi h
theorem oIx_tup {ds : List D} {i : Int} {m : Nat} {d : D} (hi : i = (m : Int)) (h : ds[m]? = some d) : oIx (.tuple ds) (.int i) = some d := atI_nat hi h
/-- an item of ints -/
theorem oIx_listf {α : Type} {l : List α} {g : α → D} {i : Int} {m : Nat} {x : α} (hi : i = (m : Int)) (h : l[m]? = some x) : oIx (.list (l.map g)) (.int i) = some (g x) := oIx_list hi (by rw [List.getElem?_map, h]; rfl)
theorem oIx_tupf {α : Type} {l : List α} {g : α → D} {i : Int} {m : Nat} {x : α} (hi : i = (m : Int)) (h : l[m]? = some x) : oIx (.tuple (l.map g)) (.int i) = some (g x) := oIx_tup hi (by rw [List.getElem?_map, h]; rfl)
/-- any item of a row, by number -/
theorem pick_mem {ds : List D} {r : Int} (h0 : 0 ≤ r) (h : r < (ds.length : Int)) : ∃ d, d ∈ ds ∧ atI ds r = some d := by
  have hm : r.toNat < ds.length := by omega
  refine ⟨ds[r.toNat], List.getElem_mem hm, atI_nat (m := r.toNat) (by omega) (List.getElem?_eq_getElem hm)⟩
/-- [e for x in l.map h] -/
theorem comp_mf {g : DTg} {te : DT D} {P : List D → Prop} {ρ : Envd} {α : Type} {l : List α} {h : α → D} (f : α → D) (hl : l.length ≤ sizeLine) (hs : ∀ x ∈ l, ∀ K : D → Prop, K (f x) → g (h x) ρ fun ρ1 => te ρ1 K) (hP : P (l.map f)) : compL g xYes te P ρ (l.map h) [] := by
  refine compL_inv (fun i acc => acc = (l.take i).map f) (l.map h) 0 [] rfl (fun i d acc K e h1 h2 => ?_) fun acc h1 => ?_
  · rw [Nat.zero_add] at h1 h2
    rw [List.getElem?_map] at e
    obtain ⟨x, ex, rfl⟩ := Option.map_eq_some_iff.mp e
    have hi : i < l.length := (List.getElem?_eq_some_iff.mp ex).1
    refine hs x (List.mem_of_getElem? ex) _ ⟨?_, h2 _ ?_⟩
    · rw [h1, List.length_map, List.length_take]; omega
    · rw [h1, List.take_add_one, ex, List.map_append]; rfl
  · rw [Nat.zero_add, List.length_map, List.take_length] at h1
    rw [h1]; exact hP
/-- [e for x in l.map h if t] -/
theorem comp_ff {g : DTg} {tt : DT Bool} {te : DT D} {P : List D → Prop} {ρ : Envd} {α : Type} {l : List α} {h : α → D} (p : α → Bool) (f : α → D) (hl : l.length ≤ sizeLine)
    (hs : ∀ x ∈ l, ∀ (K : D → Prop) (L : Prop), (p x = true → K (f x)) → (p x = false → L) → g (h x) ρ fun ρ1 => tt ρ1 fun b => if b = true then te ρ1 K else L) (hP : P ((l.filter p).map f)) : compL g tt te P ρ (l.map h) [] := by
  refine compL_inv (fun i acc => acc = ((l.take i).filter p).map f) (l.map h) 0 [] rfl (fun i d acc K e h1 h2 => ?_) fun acc h1 => ?_
  · rw [Nat.zero_add] at h1 h2
    rw [List.getElem?_map] at e
    obtain ⟨x, ex, rfl⟩ := Option.map_eq_some_iff.mp e
    have hi : i < l.length := (List.getElem?_eq_some_iff.mp ex).1
    have hlen : acc.length ≤ i := by
      rw [h1, List.length_map]
      exact Nat.le_trans (List.length_filter_le _ _) (by rw [List.length_take]; omega)
    refine hs x (List.mem_of_getElem? ex) _ _ (fun hp => ⟨by omega, h2 _ ?_⟩) fun hp => h2 _ ?_
    · rw [h1, List.take_add_one, ex, List.filter_append, List.map_append]
      simp [hp]
    · rw [h1, List.take_add_one, ex, List.filter_append, List.map_append]
      simp [hp]
  · rw [Nat.zero_add, List.length_map, List.take_length] at h1
    rw [h1]; exact hP
/-- l.map h, cut -/
theorem cut_to {α : Type} (l : List α) (h : α → D) (e : Int) (h0 : 0 ≤ e) (h1 : e ≤ (l.length : Int)) : cutD (l.map h) none (some e) = (l.take e.toNat).map h := by
  have e1 : HT.sIx (l.map h).length 0 none = 0 := rfl
  have e2 : HT.sIx (l.map h).length (l.map h).length (some e) = e.toNat := by
    simp only [HT.sIx, List.length_map]
    rw [if_neg (by omega)]
    omega
  unfold cutD
  rw [e1, e2, List.drop_zero, Nat.sub_zero, List.map_take]
/-- an environment of n slots, whatever they hold -/
def exL : Nat → (Envd → Prop) → Prop
  | 0, Q => Q []
  | n + 1, Q => ∃ s, exL n fun l => Q (s :: l)
/-- a law's names, the source at place 1 -/
def deckI (n : Nat) (ρ : Envd) : Prop := exL n fun l => ρ = .nil :: .deck :: l
theorem exL_rep : ∀ (n : Nat) (Q : Envd → Prop), Q (List.replicate n .nil) → exL n Q
  | 0, Q, h => h
  | n + 1, Q, h => ⟨.nil, exL_rep n _ h⟩
theorem exL_of : ∀ (l : List Slot) (Q : Envd → Prop), Q l → exL l.length Q
  | [], Q, h => h
  | s :: l, Q, h => ⟨s, exL_of l _ h⟩
theorem deckI_of {n : Nat} (l : List Slot) (h : l.length = n) : deckI n (.nil :: .deck :: l) := h ▸ exL_of l _ rfl
theorem deckI_law (n : Nat) : deckI n (lawD n) := exL_rep n _ rfl
theorem sum_bd (B : Int) : ∀ l : List Int, (∀ x ∈ l, 0 ≤ x ∧ x ≤ B) → 0 ≤ l.sum ∧ l.sum ≤ l.length * B
  | [], _ => by constructor <;> simp
  | x :: r, h => by
    have h1 := h x (List.mem_cons_self ..)
    have h2 := sum_bd B r fun y hy => h y (List.mem_cons_of_mem _ hy)
    rw [List.sum_cons, List.length_cons, Int.natCast_add, Int.add_mul]
    omega
theorem log_sm {m : Int} (k : Nat) (h : m.natAbs < 2 ^ k) (hk : k < 9000 := by decide) : m.natAbs.log2 < 9000 := Nat.lt_of_le_of_lt (log2_bd h) hk
/-- _law_pick(source, row): any item of a row that is not empty -/
def spPick : SpD := fun as P => ∃ (ds : List D), (as = [.dk, .d (.list ds)] ∨ as = [.dk, .d (.tuple ds)]) ∧ 1 ≤ ds.length ∧ ds.length ≤ 1000000 ∧ ∀ d ∈ ds, P d
theorem len_log {n : Nat} (h : n ≤ 1000000) : (Int.natAbs (n : Int)).log2 < 9000 := Nat.lt_of_le_of_lt (log2_bd (m := 20) (by omega)) (by decide)
end DL

namespace DL
open PySem PySem.Spec PyProof.Rows L2

/-! ### zip, enumerate -/
def zipD (ds es : List D) : List D := (ds.zip es).map fun z => .tuple [z.1, z.2]
theorem zipD_get {ds es : List D} {i : Nat} {d : D} (h : (zipD ds es)[i]? = some d) : ∃ x y, ds[i]? = some x ∧ es[i]? = some y ∧ d = .tuple [x, y] := by
  unfold zipD at h
  rw [List.getElem?_map] at h
  obtain ⟨z, hz, rfl⟩ := Option.map_eq_some_iff.mp h
  obtain ⟨h1, h2⟩ := List.getElem?_zip_eq_some.mp hz
  exact ⟨z.1, z.2, h1, h2, rfl⟩
theorem zipD_len (ds es : List D) : (zipD ds es).length = min ds.length es.length := by unfold zipD; rw [List.length_map, List.length_zip]
section
variable {T : DKd} {X : Cx} {K : PySem.W.Frag} {dk : DkA} {HS H : Hp} {tg e e2 : Expr} {ta tb : DT D} {pos p tpos : Pos} {elts : List Expr} {kk : Nat}
theorem it_zipL {a b : Addr} {vs us : List V} {ds es : List D} (h : HS a = some (.lst vs)) (q : Rvs K HS vs ds) (h' : HS b = some (.lst us)) (q' : Rvs K HS us es) : ItOk T K (Itz K a b) HS (zipD ds es) := fun dk HS' H' sm w => by
  have h1 : SqL K H' a vs := SqL.of (w.sub _ _ (sm _ _ h))
  have h2 : SqL K H' b us := SqL.of (w.sub _ _ (sm _ _ h'))
  refine ⟨fun i d e => ?_, vs, us, h1, h2, ?_⟩
  · obtain ⟨x, y, ex, ey, rfl⟩ := zipD_get e
    obtain ⟨v, hv, r⟩ := q.getD ex
    obtain ⟨u, hu, r'⟩ := q'.getD ey
    refine ⟨⟨vs, us, v, u, h1, h2, hv, hu⟩, fun z H'' y => ?_⟩
    obtain ⟨t, v', u', rfl, hn, rfl, k1, k2⟩ := y
    have e1 := k1 vs h1
    rw [hv] at e1
    cases e1
    have e2 := k2 us h2
    rw [hu] at e2
    cases e2
    obtain ⟨s, rr⟩ := new_tup w hn (.cons (dp_same sm _ _ r) (.cons (dp_same sm _ _ r') .nil))
    exact ⟨_, s, rr⟩
  · rw [zipD_len, ← q.len, ← q'.len]; omega
theorem it_zipT {a b : Addr} {vs us : List V} {ds es : List D} (h : SqT K HS a vs) (q : Rvs K HS vs ds) (h' : SqT K HS b us) (q' : Rvs K HS us es) : ItOk T K (RZ.ItzT K a b) HS (zipD ds es) := fun dk HS' H' sm w => by
  have h1 : SqT K H' a vs := same_seqT w.sub (same_seqT sm h)
  have h2 : SqT K H' b us := same_seqT w.sub (same_seqT sm h')
  refine ⟨fun i d e => ?_, vs, us, h1, h2, ?_⟩
  · obtain ⟨x, y, ex, ey, rfl⟩ := zipD_get e
    obtain ⟨v, hv, r⟩ := q.getD ex
    obtain ⟨u, hu, r'⟩ := q'.getD ey
    refine ⟨⟨vs, us, v, u, h1, h2, hv, hu⟩, fun z H'' y => ?_⟩
    obtain ⟨t, v', u', rfl, hn, rfl, k1, k2⟩ := y
    have e1 := k1 vs h1
    rw [hv] at e1
    cases e1
    have e2 := k2 us h2
    rw [hu] at e2
    cases e2
    obtain ⟨s, rr⟩ := new_tup w hn (.cons (dp_same sm _ _ r) (.cons (dp_same sm _ _ r') .nil))
    exact ⟨_, s, rr⟩
  · rw [zipD_len, ← q.len, ← q'.len]; omega
theorem it_enumL {a : Addr} {vs : List V} {ds : List D} (h : HS a = some (.lst vs)) (q : Rvs K HS vs ds) : ItOk T K (Ite K a) HS (zipD (rangeD 0 ds.length) ds) := fun dk HS' H' sm w => by
  have h1 : SqL K H' a vs := SqL.of (w.sub _ _ (sm _ _ h))
  refine ⟨fun i d e => ?_, vs, h1, ?_⟩
  · obtain ⟨x, y, ex, ey, rfl⟩ := zipD_get e
    obtain ⟨v, hv, r⟩ := q.getD ey
    refine ⟨⟨vs, v, h1, hv⟩, fun z H'' y => ?_⟩
    obtain ⟨t, v', rfl, hn, rfl, k1⟩ := y
    have e1 := k1 vs h1
    rw [hv] at e1
    cases e1
    obtain ⟨_, ei⟩ := rangeD_get ex
    subst ei
    rw [Int.zero_add]
    obtain ⟨s, rr⟩ := new_tup w hn (.cons (.int _) (.cons (dp_same sm _ _ r) .nil))
    exact ⟨_, s, rr⟩
  · rw [zipD_len, rangeD_len, ← q.len]; omega
def xZip (ta tb : DT D) : DT (List D) := fun ρ P => ta ρ fun d => tb ρ fun d2 => ∃ ds es, ((d = .list ds ∧ d2 = .list es) ∨ (d = .tuple ds ∧ d2 = .tuple es)) ∧ P (zipD ds es)
def xEnum (ta : DT D) : DT (List D) := fun ρ P => ta ρ fun d => ∃ ds, d = .list ds ∧ P (zipD (rangeD 0 ds.length) ds)
theorem dit_zip (hg : Gl X "zip") (hm : X.mg "zip" = none) (he : DE T X e ta) (he2 : DE T X e2 tb)
    (hs : starEach [e, e2] X.env = (false, eval e X.env) :: starEach [e2] X.env := by rfl) (hpl : (backTo pos (starEach [e2] X.env)).any (·.1) = false := by rfl)
    (hs4 : starEach [e2] X.env = (false, eval e2 X.env) :: starEach [] X.env := by rfl) : DIt T X (.Tuple elts kk tpos) (.Call (.Name "zip" p) [e, e2] [] pos) (xZip ta tb) :=
  ⟨PI.imp (RZ.pi_zipA hg hm (pa_cons he.pe (pa_cons he2.pe pa_nil hs4) hs) hs hpl) fun σ H R h => by
    obtain ⟨en, ρ, dk, HS, P, E, q, k⟩ := h
    refine ⟨en, ρ, dk, HS, _, E, q, fun d v HS1 H1 p s r => ⟨en, ρ, dk, HS1, _, E.stp s, p, fun d2 v2 HS2 H2 p2 s2 r2 => ?_⟩⟩
    obtain ⟨ds, es, ⟨rfl, rfl⟩ | ⟨rfl, rfl⟩, p2⟩ := p2
    · cases r with
      | lst h q =>
        cases r2 with
        | lst h2 q2 =>
          have h' := s2.sh _ _ h
          exact ⟨_, _, _, _, rfl, .inl ⟨SqL.of (s2.wd.sub _ _ h'), SqL.of (s2.wd.sub _ _ h2), k _ _ HS2 H2 p2 (s.trans s2) (it_zipL h' (dps_same s2.sh _ _ q) h2 q2)⟩⟩
    · cases r with
      | tup h q =>
        cases r2 with
        | tup h2 q2 =>
          have h' := s2.sh _ _ h
          exact ⟨_, _, _, _, rfl, .inr ⟨SqT.of (s2.wd.sub _ _ h'), SqT.of (s2.wd.sub _ _ h2), k _ _ HS2 H2 p2 (s.trans s2) (it_zipT (SqT.of h') (dps_same s2.sh _ _ q) (SqT.of h2) q2)⟩⟩⟩
theorem dit_enum (hg : Gl X "enumerate") (hm : X.mg "enumerate" = none) (he : DE T X e ta) (hs : starEach [e] X.env = [(false, eval e X.env)] := by rfl) (hs2 : starEach [e] X.env = (false, eval e X.env) :: starEach [] X.env := by rfl) : DIt T X (.Tuple elts kk tpos) (.Call (.Name "enumerate" p) [e] [] pos) (xEnum ta) :=
  ⟨PI.imp (pi_enum hg hm (pa_cons he.pe pa_nil hs2) hs) fun σ H R h => by
    obtain ⟨en, ρ, dk, HS, P, E, q, k⟩ := h
    refine ⟨en, ρ, dk, HS, _, E, q, fun d v HS1 H1 p s r => ?_⟩
    obtain ⟨ds, rfl, p⟩ := p
    cases r with
    | lst h q => exact ⟨_, _, rfl, SqL.of (s.wd.sub _ _ h), k _ _ HS1 H1 p s (it_enumL h q)⟩⟩
end

/-! ### a stop inside an expression: what stands after it is asked once -/
def xQ {α : Type} (t : DT α) : DT α := fun ρ P => ∃ Q : α → Prop, t ρ Q ∧ ∀ d, Q d → P d
section
variable {T : DKd} {X : Cx} {e : Expr} {ta : DT D}
theorem d_q (h : DE T X e ta) : DE T X e (xQ ta) := ⟨PE.imp h.pe fun σ H Q ⟨en, ρ, dk, HS, P, E, ⟨R, q, m⟩, k⟩ => ⟨en, ρ, dk, HS, R, E, q, fun d v HS1 H1 p s r => k d v HS1 H1 (m d p) s r⟩⟩
theorem dr_q (h : DR T X e ta) : DR T X e (xQ ta) := ⟨PE.imp h.pe fun σ H Q ⟨en, ρ, dk, HS, P, E, ⟨R, q, m⟩, k⟩ => ⟨en, ρ, dk, HS, R, E, q, fun d v HS1 H1 p s r => k d v HS1 H1 (m d p) s r⟩⟩
end
/-- while: k turns are left -/
theorem while_n {c : DT Bool} {b : DTS} {P : EndsD} (I : Nat → Envd → Prop)
    (hs : ∀ (k : Nat) (ρ : Envd) (K : Envd → Prop), I (k + 1) ρ → (∀ ρ', I k ρ' → K ρ') → c ρ fun t => if t = true then b { P with nx := K, ct := K, bk := P.nx } ρ else P.nx ρ)
    (h0 : ∀ (ρ : Envd) (K : Envd → Prop), I 0 ρ → c ρ fun t => if t = true then b { P with nx := K, ct := K, bk := P.nx } ρ else P.nx ρ) : ∀ (n : Nat) (ρ : Envd), I n ρ → whileN c b P (n + 1) ρ
  | 0, ρ, h => h0 ρ _ h
  | n + 1, ρ, h => hs n ρ _ h fun ρ' h' => while_n I hs h0 n ρ' h'
theorem while_to {c : DT Bool} {b : DTS} {P : EndsD} (I : Nat → Envd → Prop) {n : Nat} {ρ : Envd} (h : I n ρ)
    (hs : ∀ (k : Nat) (ρ : Envd) (K : Envd → Prop), I (k + 1) ρ → (∀ ρ', I k ρ' → K ρ') → c ρ fun t => if t = true then b { P with nx := K, ct := K, bk := P.nx } ρ else P.nx ρ)
    (h0 : ∀ (ρ : Envd) (K : Envd → Prop), I 0 ρ → c ρ fun t => if t = true then b { P with nx := K, ct := K, bk := P.nx } ρ else P.nx ρ) : yWhile c b P ρ := ⟨n + 1, while_n I hs h0 n ρ h⟩

/-! ### how much text repr makes, piece by piece -/
structure FitD (b dp bk : Nat) (d : D) : Prop where
  sm : smallD b d = true
  dp : d.depth ≤ dp
  bk : d.bulk ≤ bk
structure FitDL (b dp bk : Nat) (ds : List D) : Prop where
  sm : smallsD b ds = true
  dp : PyData.depthAll ds ≤ dp
  bk : PyData.bulkAll ds ≤ bk
theorem fitd_int {b : Nat} {i : Int} (dp bk : Nat) (h : i.natAbs < 2 ^ b) : FitD b (dp + 1) bk (.int i) := ⟨decide_eq_true h, by simp only [PyData.depth]; omega, by simp only [PyData.bulk]; omega⟩
theorem fitd_none {b : Nat} (dp bk : Nat) : FitD b (dp + 1) bk .none := ⟨rfl, by simp only [PyData.depth]; omega, by simp only [PyData.bulk]; omega⟩
theorem fitd_bool {b : Nat} {t : Bool} (dp bk : Nat) : FitD b (dp + 1) bk (.bool t) := ⟨rfl, by simp only [PyData.depth]; omega, by simp only [PyData.bulk]; omega⟩
theorem fitd_str {b : Nat} {x : Str} (dp bk : Nat) (h : (x.cps.toList.all fun c => decide (c < 16 ^ 8)) = true) (hb : PyData.bulk (.str x) ≤ bk) : FitD b (dp + 1) bk (.str x) := ⟨h, by simp only [PyData.depth]; omega, hb⟩
theorem fitd_nil {b : Nat} (dp bk : Nat) : FitDL b dp bk [] := ⟨rfl, by simp only [PyData.depthAll]; omega, by simp only [PyData.bulkAll]; omega⟩
theorem fitd_cons {b dp bk bk' : Nat} {d : D} {ds : List D} (h : FitD b dp bk d) (h' : FitDL b dp bk' ds) : FitDL b dp (bk + 1 + bk') (d :: ds) := ⟨by
    show (smallD b d && smallsD b ds) = true
    rw [h.sm, h'.sm]; rfl, by
    have h1 := h.dp
    have h2 := h'.dp
    simp only [PyData.depthAll]; omega, by
    have h1 := h.bk
    have h2 := h'.bk
    simp only [PyData.bulkAll]; omega⟩
theorem fitd_list {b dp bk : Nat} {ds : List D} (h : FitDL b dp bk ds) : FitD b (dp + 1) bk (.list ds) := ⟨h.sm, by
    have h1 := h.dp
    simp only [PyData.depth]; omega, by
    have h1 := h.bk
    simp only [PyData.bulk]; omega⟩
theorem fitd_tup {b dp bk : Nat} {ds : List D} (h : FitDL b dp bk ds) : FitD b (dp + 1) bk (.tuple ds) := ⟨h.sm, by
    have h1 := h.dp
    simp only [PyData.depth]; omega, by
    have h1 := h.bk
    simp only [PyData.bulk]; omega⟩
theorem fitd_map {α : Type} {b dp bk : Nat} {f : α → D} : ∀ (l : List α), (∀ x ∈ l, FitD b dp bk (f x)) → FitDL b dp (l.length * (bk + 1)) (l.map f)
  | [], _ => fitd_nil _ _
  | x :: r, h => by
    have z := fitd_cons (h x (List.mem_cons_self ..)) (fitd_map r fun y hy => h y (List.mem_cons_of_mem _ hy))
    rw [show bk + 1 + r.length * (bk + 1) = (x :: r).length * (bk + 1) by rw [List.length_cons, Nat.add_mul]; omega] at z
    exact z
theorem FitD.up {b dp bk dp' bk' : Nat} {d : D} (h : FitD b dp bk d) (h1 : dp ≤ dp' := by decide) (h2 : bk ≤ bk' := by omega) : FitD b dp' bk' d := ⟨h.sm, Nat.le_trans h.dp h1, Nat.le_trans h.bk h2⟩
theorem FitD.ok {b dp bk : Nat} {d : D} (h : FitD b dp bk d) (h0 : 0 < b) (hb : b ≤ 1920) (h1 : dp ≤ 60) (h2 : (b + 10) * bk + b + 8 ≤ 16777216) (hd : dictOk d = true) : RepOk d :=
  repOk_of b h0 hb h.sm (Nat.le_trans h.dp h1) (by
    have := Nat.mul_le_mul_left (b + 10) h.bk
    omega) hd
theorem fitd_dict0 {b : Nat} (dp bk : Nat) : FitD b (dp + 1) bk (.dict []) := ⟨rfl, by simp only [PyData.depth, PyData.depthKv]; omega, by simp only [PyData.bulk, PyData.bulkKv]; omega⟩
theorem fitd_dict1 {b : Nat} {x : Str} {i : Int} (dp bk : Nat) (h : (x.cps.toList.all fun c => decide (c < 16 ^ 8)) = true) (hi : i.natAbs < 2 ^ b) (hb : PyData.bulk (.dict [(.str x, .int i)]) ≤ bk) : FitD b (dp + 1) bk (.dict [(.str x, .int i)]) :=
  ⟨by show ((x.cps.toList.all fun c => decide (c < 16 ^ 8)) && decide (i.natAbs < 2 ^ b)) = true; rw [h, decide_eq_true hi]; rfl, by simp only [PyData.depth, PyData.depthKv]; omega, hb⟩
structure Fit (b dp bk : Nat) (d : D) : Prop where
  sm : smallD b d = true
  dp : d.depth ≤ dp
  bk : d.bulk ≤ bk
  nd : d.hasDict = false
structure FitL (b dp bk : Nat) (ds : List D) : Prop where
  sm : smallsD b ds = true
  dp : PyData.depthAll ds ≤ dp
  bk : PyData.bulkAll ds ≤ bk
  nd : PyData.hasDictAll ds = false
theorem fit_int {b : Nat} {i : Int} (dp bk : Nat) (h : i.natAbs < 2 ^ b) : Fit b (dp + 1) bk (.int i) := ⟨decide_eq_true h, by simp only [PyData.depth]; omega, by simp only [PyData.bulk]; omega, rfl⟩
theorem fit_none {b : Nat} (dp bk : Nat) : Fit b (dp + 1) bk .none := ⟨rfl, by simp only [PyData.depth]; omega, by simp only [PyData.bulk]; omega, rfl⟩
theorem fit_bool {b : Nat} {t : Bool} (dp bk : Nat) : Fit b (dp + 1) bk (.bool t) := ⟨rfl, by simp only [PyData.depth]; omega, by simp only [PyData.bulk]; omega, rfl⟩
theorem fit_str {b : Nat} {x : Str} (dp bk : Nat) (h : (x.cps.toList.all fun c => decide (c < 16 ^ 8)) = true) (hb : PyData.bulk (.str x) ≤ bk) : Fit b (dp + 1) bk (.str x) := ⟨h, by simp only [PyData.depth]; omega, hb, rfl⟩
theorem fit_nil {b : Nat} (dp bk : Nat) : FitL b dp bk [] := ⟨rfl, by simp only [PyData.depthAll]; omega, by simp only [PyData.bulkAll]; omega, rfl⟩
theorem fit_cons {b dp bk bk' : Nat} {d : D} {ds : List D} (h : Fit b dp bk d) (h' : FitL b dp bk' ds) : FitL b dp (bk + 1 + bk') (d :: ds) := ⟨by
    show (smallD b d && smallsD b ds) = true
    rw [h.sm, h'.sm]; rfl, by
    have h1 := h.dp
    have h2 := h'.dp
    simp only [PyData.depthAll]; omega, by
    have h1 := h.bk
    have h2 := h'.bk
    simp only [PyData.bulkAll]; omega, by simp [PyData.hasDictAll, h.nd, h'.nd]⟩
theorem fit_list {b dp bk : Nat} {ds : List D} (h : FitL b dp bk ds) : Fit b (dp + 1) bk (.list ds) := ⟨h.sm, by
    have h1 := h.dp
    simp only [PyData.depth]; omega, by
    have h1 := h.bk
    simp only [PyData.bulk]; omega, by simpa [PyData.hasDict] using h.nd⟩
theorem fit_tup {b dp bk : Nat} {ds : List D} (h : FitL b dp bk ds) : Fit b (dp + 1) bk (.tuple ds) := ⟨h.sm, by
    have h1 := h.dp
    simp only [PyData.depth]; omega, by
    have h1 := h.bk
    simp only [PyData.bulk]; omega, by simpa [PyData.hasDict] using h.nd⟩
theorem fit_map {α : Type} {b dp bk : Nat} {f : α → D} : ∀ (l : List α), (∀ x ∈ l, Fit b dp bk (f x)) → FitL b dp (l.length * (bk + 1)) (l.map f)
  | [], _ => fit_nil _ _
  | x :: r, h => by
    have z := fit_cons (h x (List.mem_cons_self ..)) (fit_map r fun y hy => h y (List.mem_cons_of_mem _ hy))
    rw [show bk + 1 + r.length * (bk + 1) = (x :: r).length * (bk + 1) by rw [List.length_cons, Nat.add_mul]; omega] at z
    exact z
theorem Fit.up {b dp bk dp' bk' : Nat} {d : D} (h : Fit b dp bk d) (h1 : dp ≤ dp' := by decide) (h2 : bk ≤ bk' := by omega) : Fit b dp' bk' d := ⟨h.sm, Nat.le_trans h.dp h1, Nat.le_trans h.bk h2, h.nd⟩
theorem Fit.ok {b dp bk : Nat} {d : D} (h : Fit b dp bk d) (h0 : 0 < b) (hb : b ≤ 1920) (h1 : dp ≤ 60) (h2 : (b + 10) * bk + b + 8 ≤ 16777216) : RepOk d :=
  repOk_of b h0 hb h.sm (Nat.le_trans h.dp h1) (by
    have := Nat.mul_le_mul_left (b + 10) h.bk
    omega) (dictOk_of h.nd)
theorem Fit.mono {b dp bk bk' : Nat} {d : D} (h : Fit b dp bk d) (h2 : bk ≤ bk') : Fit b dp bk' d := ⟨h.sm, h.dp, Nat.le_trans h.bk h2, h.nd⟩
theorem Fit.d {b dp bk : Nat} {d : D} (h : Fit b dp bk d) : FitD b dp bk d := ⟨h.sm, h.dp, h.bk⟩
theorem fit_id {b dp bk : Nat} (ds : List D) (h : ∀ d ∈ ds, Fit b dp bk d) : FitL b dp (ds.length * (bk + 1)) ds := by
  have := fit_map (f := fun d => d) ds h
  rwa [List.map_id'] at this
theorem fitd_id {b dp bk : Nat} (ds : List D) (h : ∀ d ∈ ds, FitD b dp bk d) : FitDL b dp (ds.length * (bk + 1)) ds := by
  have := fitd_map (f := fun d => d) ds h
  rwa [List.map_id'] at this
theorem fRepr_any {b dp bk : Nat} {d : D} (h : Fit b dp bk d) (h0 : 0 < b) (hb : b ≤ 1920) (h1 : dp ≤ 60) (h2 : (b + 10) * bk + b + 8 ≤ 16777216) : ∃ t, fRepr [d] = some (.str t) := by
  have r := h.ok h0 hb h1 h2
  have e := h.sm
  cases d with
  | none => exact ⟨_, rfl⟩
  | bool b => exact ⟨_, rfl⟩
  | int i => exact ⟨_, fRepr_int (of_decide_eq_true r.1)⟩
  | str x => exact ⟨_, if_pos r.2.2.1⟩
  | list ds => exact ⟨_, fRepr_list r⟩
  | tuple ds => exact ⟨_, fRepr_tup r⟩
  | dict kvs => exact ⟨_, if_pos ⟨r.1, r.2.1, r.2.2.1⟩⟩
theorem fReprD_any {b dp bk : Nat} {d : D} (h : FitD b dp bk d) (h0 : 0 < b) (hb : b ≤ 1920) (h1 : dp ≤ 60) (h2 : (b + 10) * bk + b + 8 ≤ 16777216) (hd : dictOk d = true) : ∃ t, fRepr [d] = some (.str t) := by
  have r := h.ok h0 hb h1 h2 hd
  have e := h.sm
  cases d with
  | none => exact ⟨_, rfl⟩
  | bool b => exact ⟨_, rfl⟩
  | int i => exact ⟨_, fRepr_int (of_decide_eq_true r.1)⟩
  | str x => exact ⟨_, if_pos r.2.2.1⟩
  | list ds => exact ⟨_, fRepr_list r⟩
  | tuple ds => exact ⟨_, fRepr_tup r⟩
  | dict kvs => exact ⟨_, if_pos ⟨r.1, r.2.1, r.2.2.1⟩⟩
end DL

namespace DL
open PySem PySem.Spec PyProof.Rows L2

/-! ### list(range(..)), tuple(range(..)) -/
def lRg (T : DKd) (K : PySem.W.Frag) (t : DT (Int × Int)) : L2.St → Hp → (Int → Int → Hp → Prop) → Prop := fun σ H Q => ∃ en ρ dk HS P, EnvR T K en ρ dk HS H σ ∧ t ρ P ∧ ∀ z HS1 H1, P z → Stp T dk HS H HS1 H1 → Q z.1 z.2 H1
structure DRg (T : DKd) (X : Cx) (e : Expr) (t : DT (Int × Int)) : Prop where
  pr : PRg X e (lRg T X.K t)
theorem PRg.imp {X : Cx} {e : Expr} {t t' : L2.St → Hp → (Int → Int → Hp → Prop) → Prop} (h : PRg X e t) (m : ∀ σ H Q, t' σ H Q → t σ H Q) : PRg X e t' := fun pins s σ H Q I q => h pins s σ H Q I (m _ _ _ q)
def xBd1 (ta : DT D) : DT (Int × Int) := fun ρ P => ta ρ fun d => ∃ j, d = .int j ∧ P (0, j)
def xBd2 (ta tb : DT D) : DT (Int × Int) := fun ρ P => ta ρ fun d => tb ρ fun d2 => ∃ i j, d = .int i ∧ d2 = .int j ∧ P (i, j)
def xRgF (t : DT (Int × Int)) : DT (List D) := fun ρ P => t ρ fun z => RgOk z.1 z.2 ∧ P (rangeD z.1 (z.2 - z.1).toNat)
def xRgT (t : DT (Int × Int)) : DT D := fun ρ P => t ρ fun z => RgOk z.1 z.2 ∧ P (.tuple (rangeD z.1 (z.2 - z.1).toNat))
theorem rvs_rg {K : PySem.W.Frag} {H : Hp} (a : Int) : ∀ l : List Nat, Rvs K H (l.map fun (i : Nat) => V.int (a + (i : Int))) (l.map fun (i : Nat) => PyData.int (a + (i : Int)))
  | [] => .nil
  | x :: r => .cons (.int _) (rvs_rg a r)
section
variable {T : DKd} {X : Cx} {e e2 : Expr} {ta tb : DT D} {tr : DT (Int × Int)} {pos p : Pos}
theorem drg_1 (hg : Gl X "range") (hm : X.mg "range" = none) (he : DE T X e ta) (hs2 : starEach [e] X.env = (false, eval e X.env) :: starEach [] X.env := by rfl) : DRg T X (.Call (.Name "range" p) [e] [] pos) (xBd1 ta) :=
  ⟨PRg.imp (prg_1 hg hm he.pe hs2) fun σ H Q h => by
    obtain ⟨en, ρ, dk, HS, P, E, q, k⟩ := h
    refine ⟨en, ρ, dk, HS, _, E, q, fun d v HS1 H1 p s r => ?_⟩
    obtain ⟨j, rfl, p⟩ := p
    cases r
    exact ⟨j, rfl, k _ _ _ p s⟩⟩
theorem drg_2 (hg : Gl X "range") (hm : X.mg "range" = none) (he : DE T X e ta) (he2 : DE T X e2 tb) (na : starEach [e, e2] X.env = (false, eval e X.env) :: starEach [e2] X.env := by rfl)
    (nb : starEach [e2] X.env = (false, eval e2 X.env) :: starEach [] X.env := by rfl) (hp : (backTo pos (starEach [e2] X.env)).any (·.1) = false := by rfl) : DRg T X (.Call (.Name "range" p) [e, e2] [] pos) (xBd2 ta tb) :=
  ⟨PRg.imp (prg_2 hg hm he.pe he2.pe na nb hp) fun σ H Q h => by
    obtain ⟨en, ρ, dk, HS, P, E, q, k⟩ := h
    refine ⟨en, ρ, dk, HS, _, E, q, fun d v HS1 H1 p s r => ⟨en, ρ, dk, HS1, _, E.stp s, p, fun d2 v2 HS2 H2 p2 s2 r2 => ?_⟩⟩
    obtain ⟨i, j, rfl, rfl, p2⟩ := p2
    cases r
    cases r2
    exact ⟨i, j, rfl, rfl, k _ _ _ p2 (s.trans s2)⟩⟩
theorem df_rg (hg : Gl X "list") (hm : X.mg "list" = none) (he : DRg T X e tr) (hc : X.calm = true := by rfl) (na : starEach [e] X.env = (false, eval e X.env) :: starEach [] X.env := by rfl) : DF T X (.Call (.Name "list" p) [e] [] pos) (xRgF tr) :=
  ⟨PE.imp (pe_listRg hc hg hm he.pr na) fun σ H Q h => by
    obtain ⟨en, ρ, dk, HS, P, E, q, k⟩ := h
    refine ⟨en, ρ, dk, HS, _, E, q, fun z HS1 H1 p s => ⟨p.1, fun l hl => ?_⟩⟩
    obtain ⟨s2, rv⟩ := new_own s hl (s.back hl) (rvs_rg z.1 (List.range (z.2 - z.1).toNat))
    exact k _ _ _ _ p.2 s2 rv⟩
theorem d_rgT (hg : Gl X "tuple") (hm : X.mg "tuple" = none) (he : DRg T X e tr) (hc : X.calm = true := by rfl) (na : starEach [e] X.env = (false, eval e X.env) :: starEach [] X.env := by rfl) : DE T X (.Call (.Name "tuple" p) [e] [] pos) (xRgT tr) :=
  ⟨PE.imp (pe_tupRg hc hg hm he.pr na) fun σ H Q h => by
    obtain ⟨en, ρ, dk, HS, P, E, q, k⟩ := h
    refine ⟨en, ρ, dk, HS, _, E, q, fun z HS1 H1 p s => ⟨p.1, fun l hl => ?_⟩⟩
    obtain ⟨s2, rv⟩ := new_tup s.wd hl (rvs_rg (K := X.K) (H := HS1) z.1 (List.range (z.2 - z.1).toNat))
    exact k _ _ _ _ p.2 (s.trans s2) rv⟩
end

/-! ### x.index(y), of a list -/
def oIndex : D → D → Option D
  | .list ds, d => if okD (.list ds) = true ∧ okD d = true then (ds.findIdx? fun z => PyData.eqv z d).map fun j => .int (j : Nat) else none
  | _, _ => none
/-- ta is a list -/
def xIndex (ta tb : DT D) : DT D := fun ρ P => ta ρ fun l => ∃ ds, l = .list ds ∧ tb ρ fun y => ∃ z, oIndex (.list ds) y = some z ∧ P z
section
variable {T : DKd} {X : Cx} {o e : Expr} {ta tb : DT D} {apos cpos : Pos}
theorem d_index (hu : X.A.units + 65 < cLine) (ho : DR T X o ta) (he : DR T X e tb)
    (hbase : attributeBase o "index" X.env (eval o X.env) = eval o X.env := by rfl)
    (hfew : ((backTo cpos (starEach [e] X.env)).all (fun x => !x.1) && (backToKw cpos (keywordEach [] X.env)).all (fun x => x.1.isSome) && decide ([e].length + ([] : List Keyword).length + (if ([] : List Keyword).isEmpty then 0 else 1) < 30)) = true := by rfl)
    (hline : (apos.endLine == cpos.line) = true := by rfl) (hs : starEach [e] X.env = (false, eval e X.env) :: starEach [] X.env := by rfl) (hpl : (backTo cpos (starEach [] X.env)).any (·.1) = false := by rfl) :
    DE T X (.Call (.Attribute o "index" apos) [e] [] cpos) (xIndex ta tb) := ⟨⟨fun pins s σ H Q I h => by
  obtain ⟨en, ρ, dk, HS, P, E, q, k⟩ := h
  refine wpAny_Call_method_late hbase hfew hline rfl (thn (ho.pe.run pins s σ H (fun v H1 => ∃ ds HS1, tb ρ (fun y => ∃ z, oIndex (.list ds) y = some z ∧ P z) ∧ Stp T dk HS H HS1 H1 ∧ RpR X.K dk HS1 H1 v (.list ds)) I ⟨en, ρ, dk, HS, _, E, q, fun d v HS1 H1 p s r => by
    obtain ⟨ds, rfl, p⟩ := p
    exact ⟨ds, HS1, p, s, r⟩⟩) fun v s1 ⟨x, H1, I1, r1, ds, HS1, p, st, rd⟩ => ?_)
  have hA := (pa_cons he.pe pa_nil hs).run cpos pins s1 σ H1 (fun vs H2 => ∃ y HS2 v2, vs = [v2] ∧ (∃ z, oIndex (.list ds) y = some z ∧ P z) ∧ Stp T dk HS1 H1 HS2 H2 ∧ RpR X.K dk HS2 H2 v2 y) I1 ⟨en, ρ, dk, HS1, _, E.stp st, p, fun y v2 HS2 H2 p2 s2 r2 => ⟨y, HS2, v2, rfl, p2, s2, r2⟩⟩
  rw [hs] at hA ⊢
  have hb : (backTo cpos ((false, eval e X.env) :: starEach [] X.env)).any (·.1) = false := by
    show (false || (backTo cpos (starEach [] X.env)).any (·.1)) = false
    rw [hpl]; rfl
  have fi : ∀ {ds : List D} {y : D} {j : Nat}, ds.findIdx? (fun z => PyData.eqv z y) = some j → ∃ z, ds[j]? = some z ∧ PyData.eqv z y = true ∧ ∀ (m : Nat) (z' : PyData), m < j → ds[m]? = some z' → PyData.eqv z' y = false := fun {ds y j} h => by
    obtain ⟨h1, h2, h3⟩ := List.findIdx?_eq_some_iff_getElem.mp h
    refine ⟨ds[j], List.getElem?_eq_getElem h1, h2, fun m z' hm hz => ?_⟩
    obtain ⟨hml, rfl⟩ := List.getElem?_eq_some_iff.mp hz
    simpa using h3 m hm
  obtain ⟨a, vs, rfl, hx, _⟩ := rd.lst st.wd
  obtain ⟨t1, t2⟩ := tyV_is I1 r1 (show tyV X.K "list" (.ref a) H1 from .inl ⟨rfl, _, SqL.of hx⟩)
  refine ⟨"list", "list.index", PySem.F.plainAttrs_list, PySem.F.slot_list_index, PySem.F.type_list_index, t1, t2, Calls.callWith_builtin hb (Calls.evalArgs_plain (thn hA fun us s2 ⟨vs2, H2, I2, r2, y, HS2, v2, e2, ⟨z, hz, hP⟩, s2', ry⟩ => ?_))⟩
  subst e2
  have hz' : (if okD (.list ds) = true ∧ okD y = true then (ds.findIdx? fun z => PyData.eqv z y).map fun j => PyData.int (j : Nat) else none) = some z := hz
  obtain ⟨c, hz'⟩ := if_some' hz'
  obtain ⟨j, hj, rfl⟩ := Option.map_eq_some_iff.mp hz'
  obtain ⟨z, f1, f2, f3⟩ := fi hj
  exact mt_indexD hu pins s2 σ H2 _ _ v us Q I2 r1 r2 ⟨a, v2, y, ds, j, z, rfl, rfl, ((rd.step s2').rv s2'.wd).dpS c.1, (ry.rv s2'.wd).dpS c.2, c.1, c.2, f1, f2, f3, k _ _ _ _ hP (st.trans s2') (.int _)⟩⟩⟩
end
end DL

namespace PySem.SeqAt
open PySem PySem.Spec PyProof.Rows SrtO
section
variable {prog : Program} {w : World} {A : Around} {E : Value → Shared → Prop} {s : Shared}
/-- collecting the items of a tuple -/
theorem collect_tupD {l : Addr} {vs : List Value} {Q : List Value → Shared → Prop} (hl : s.heap.IsTuple l vs.toArray) (hsz : vs.length ≤ sizeLine) (h : Q vs { s with heap := (s.heap.push (seqObj "list" #[] 0)).update s.heap.objs.size (Obj.mapSeq (· ++ vs.toArray)) }) : wpAny (model prog w) A (collect (.ref l)) Q E s := by
  obtain ⟨o, ho, hc, n, hd⟩ := id hl; unfold collect
  refine wpAny_bind (wpAny_runValue (codeAny_builtin F.entry_proto_collect ?_)); show wpAny _ _ (do again (.builtin "list.__iadd__" ⟨[← newList [], .ref l], []⟩)) _ _ s
  refine wpAny_bind (wpAny_newList (wpAny_pure ⟨Code.quiet_builtin _ (by decide +kernel), codeAny_builtin F.entry_list_iadd ?_⟩)); show wpAny _ _ (Builtin.List.listExtendWith (.ref s.heap.objs.size) (.ref l) (.ref s.heap.objs.size)) _ _ { s with heap := s.heap.push (seqObj "list" #[] 0) }
  unfold Builtin.List.listExtendWith; have ho' : (s.heap.push (seqObj "list" #[] 0)).get? l = some o := Heap.get?_push_of_some _ ho
  refine wpAny_bind (wpAny_typeOf (T := "tuple") ⟨o, ho', hc⟩ ?_); have ht : (Value.type "tuple" == Value.type "tuple") = true := by rfl
  rw [if_pos (by rw [ht]; simp)]; refine wpAny_bind (listItems_at ho' hd ?_)
  refine wpAny_bind (listItems_at (xs := #[]) (n := 0) (Heap.get?_push_size _ rfl) rfl ?_); rw [if_neg (by simp)]
  refine wpAny_bind (listUpdate_at (xs := #[]) (n := 0) (Heap.get?_push_size _ rfl) rfl ?_ (Nat.zero_le _) (by show (#[] ++ vs.toArray).size ≤ sizeLine + 1; simp only [Array.size_append, List.size_toArray, List.length_nil]; omega)); refine wpAny_pure ?_
  show wpAny (model prog w) A (load s.heap.objs.size >>= fun o => match o.data with | .seq xs _ => pure xs.toList | _ => unsupported "internal:collect") Q E { s with heap := (s.heap.push (seqObj "list" #[] 0)).update s.heap.objs.size (Obj.mapSeq (· ++ vs.toArray)) }
  refine wpAny_bind (wpAny_load (get?_update_seq (Heap.get?_push_size _ rfl) _) ?_); show wpAny _ _ (pure ((#[] : Array Value) ++ vs.toArray).toList) Q E _
  rw [show ((#[] : Array Value) ++ vs.toArray).toList = vs by simp]; exact wpAny_pure h
end
end PySem.SeqAt
namespace SrtO
open PySem PySem.Spec PyProof.Rows
section
variable {prog : Program} {w : World} {A : Around} {E : Value → Shared → Prop} {s : Shared}
/-- sorted(t), t a tuple -/
theorem sorted_ordT {l : Addr} {vs : List Value} {ltv : Value → Value → Bool} {Q : Value → Shared → Prop} (O : Swo ltv) (hl : s.heap.IsTuple l vs.toArray) (hz : vs.length ≤ sizeLine) (hS : 2 ≤ vs.length → ∀ (h₁ : Heap) (a : Addr), h₁.get? a = some (seqObj "list" vs.toArray 0) → (∀ b o, s.heap.get? b = some o → b ≠ a ∧ h₁.get? b = some o) → SortableO prog w A.in1.in1 { s with heap := h₁ } a vs ltv) (h : ∀ out : List Value, Srtd ltv out → Stb ltv out vs → Q (.ref (s.heap.objs.size + 1)) { s with heap := sortedAll s.heap vs out.toArray }) : wpAny (model prog w) A (call (.builtin "sorted") [.ref l]) Q E s := by
  refine Calls.call_function_entry kind_sorted plain_sorted entry_sorted (args_sorted1 _) ?_; unfold Builtin.«sorted»
  refine wpAny_bind (m := checkCount "sorted" 1 1 _) (wpAny_pure ?_); refine wpAny_bind (SeqAt.collect_tupD hl hz ?_); refine wpAny_bind (wpAny_newList ?_ hz)
  have hsz : ((s.heap.push (seqObj "list" #[] 0)).update s.heap.objs.size (Obj.mapSeq (· ++ vs.toArray))).objs.size = s.heap.objs.size + 1 := by rw [Heap.size_update, size_push']
  have hoL : (((s.heap.push (seqObj "list" #[] 0)).update s.heap.objs.size (Obj.mapSeq (· ++ vs.toArray))).push (seqObj "list" vs.toArray 0)).get? (s.heap.objs.size + 1) = some (seqObj "list" vs.toArray 0) := hsz ▸ Heap.get?_push_size _ rfl
  have keep : ∀ b o, s.heap.get? b = some o → b ≠ s.heap.objs.size + 1 ∧ (((s.heap.push (seqObj "list" #[] 0)).update s.heap.objs.size (Obj.mapSeq (· ++ vs.toArray))).push (seqObj "list" vs.toArray 0)).get? b = some o := fun b o q => ⟨Nat.ne_of_lt (Nat.lt_succ_of_lt (Heap.lt_size q)), Heap.get?_push_of_some _ ((Heap.get?_update_ne _ _ _ _ (Nat.ne_of_lt (Heap.lt_size q))).trans (Heap.get?_push_of_some _ q))⟩
  show wpAny _ _ _ _ _ { s with heap := ((s.heap.push (seqObj "list" #[] 0)).update s.heap.objs.size (Obj.mapSeq (· ++ vs.toArray))).push (seqObj "list" vs.toArray 0) }; rw [hsz]
  refine wpAny_bind (wpAny_holding (wpAny_call_entry slot_list_sort ⟨_, hoL, rfl⟩ entry_list_sort (list_sort_ord O hoL hz (fun h2 => hS h2 _ _ hoL keep) fun out hs hb => ⟨_, rfl, ?_⟩) (args_list_sort _))); exact wpAny_pure ⟨_, rfl, h out hs hb⟩
end
end SrtO
namespace DL
open PySem PySem.Spec PyProof.Rows L2
def rSortedIT (K : PySem.W.Frag) : List V → Hp → VK → Prop := fun vs H Q => ∃ (a : Addr) (ns : List Int), vs = [V.ref a] ∧ SqT K H a (ns.map V.int) ∧ ∀ (ns' : List Int) (p : Addr), ns'.Perm ns → ns'.Pairwise (· ≤ ·) → H p = none → Q (.ref p) (upd H p (.lst (ns'.map V.int)))
theorem cr_sortedIT {X : Cx} : CallR X (.builtin "sorted") (rSortedIT X.K) := fun pins s σ H vs us Q I r h => by
  obtain ⟨a, ns, rfl, hs, q⟩ := h; obtain ⟨its, rv, hl, hz⟩ := I.tuple hs; rw [Vals.ref1 r]; have hi := rv.ints
  refine SrtO.sorted_ordT SrtO.swo_int hl (by rw [← rv.length]; exact hz) (fun h2 h₁ a' _ _ => SrtO.ints_sortable hi h2) fun out h1 h2 => ?_
  obtain ⟨k1, k2, k3⟩ := SrtO.ints_out hi h1 h2; obtain ⟨ep, he'⟩ := PyProof.Rows.sortedAll_at s.heap its out.toArray
  have hlen : ((out.map SrtO.iv).map V.int).length ≤ sizeLine := by rw [List.length_map, k2.length_eq]; rw [List.length_map] at hz; exact hz
  exact ⟨.ref _, upd H (s.heap.objs.size + 1) (.lst ((out.map SrtO.iv).map V.int)), I.laid (t' := s.toks) (fun _ _ => PyProof.Rows.sortedAll_old) (Nat.le_succ _) ⟨hlen, out, ep, vals_of_ints k1, he'⟩, rfl, q _ _ k2 k3 (I.hok.fresh (Nat.le_succ _))⟩
/-- sorted(e), e a list or a tuple of ints -/
def xSorted (ta : DT D) : DT (List D) := fun ρ P => ta ρ fun d => ∃ ns : List Int, (d = .list (ns.map .int) ∨ d = .tuple (ns.map .int)) ∧ ∀ ns' : List Int, ns'.Perm ns → ns'.Pairwise (· ≤ ·) → P (ns'.map .int)
theorem rvs_ints {K : PySem.W.Frag} {H : Hp} : ∀ l : List Int, Rvs K H (l.map V.int) (l.map PyData.int)
  | [] => .nil
  | x :: r => .cons (.int _) (rvs_ints r)
section
variable {T : DKd} {X : Cx} {e : Expr} {ta : DT D} {pos p : Pos}
theorem df_sorted (hg : Gl X "sorted") (hm : X.mg "sorted" = none) (ha : DR T X e ta) (he : starEach [e] X.env = (false, eval e X.env) :: starEach [] X.env := by rfl) : DF T X (.Call (.Name "sorted" p) [e] [] pos) (xSorted ta) :=
  ⟨PE.imp (pe_callB (callR_or cr_sortedI cr_sortedIT) hg hm (by decide +kernel) (pa_cons ha.pe pa_nil he) (by decide) (by decide) he) fun σ H Q h => by
    obtain ⟨en, ρ, dk, HS, P, E, q, k⟩ := h
    refine ⟨en, ρ, dk, HS, _, E, q, fun d v HS1 H1 p s r => ?_⟩
    obtain ⟨ns, rfl | rfl, p⟩ := p
    · obtain ⟨a, vs, rfl, h1, q1⟩ := r.lst s.wd
      have z := q1.intsV
      subst z
      refine .inl ⟨a, ns, rfl, SqL.of h1, fun ns' l hp hs hl => ?_⟩
      obtain ⟨s2, rv⟩ := new_own s hl (s.back hl) (rvs_ints ns')
      exact k _ _ _ _ (p ns' hp hs) s2 rv
    · obtain ⟨a, vs, rfl, _, h1, q1⟩ := r.tup s.wd
      have z := q1.intsV
      subst z
      refine .inr ⟨a, ns, rfl, h1, fun ns' l hp hs hl => ?_⟩
      obtain ⟨s2, rv⟩ := new_own s hl (s.back hl) (rvs_ints ns')
      exact k _ _ _ _ (p ns' hp hs) s2 rv⟩
end
end DL

namespace PySem
open Sem (wp)
open AutoSeq1 (wpAny_loadPart')
theorem meets_enumT (l : Addr) (items : Array Value) (n : Nat) (dct : Option Addr) (sl : Array (Option Value)) : Meets (Builtin.«enumerate.__new__» ⟨[.type "enumerate", .ref l], []⟩) (fun _ R s => s.heap.get? l = some { cls := .type "tuple", dict := dct, data := .seq items n, slots := sl } ∧
      R (.ok (.ret (.ref (s.heap.push { cls := .type "tuple_iterator", data := .fields #[.ref l, .int 0 0] }).objs.size))) { s with heap := (s.heap.push { cls := .type "tuple_iterator", data := .fields #[.ref l, .int 0 0] }).push { cls := .type "enumerate", data := .fields #[.none, .bool false, .ref s.heap.objs.size, rawInt 0, .none, .none] } }) :=
  .of_wp fun prog w A R s h => by
    obtain ⟨hp, g, d, tk, os⟩ := s; obtain ⟨hl, h⟩ := h; have hsub := sub_enumerate
    have hL : Heap.IsTuple (Shared.heap ⟨hp, g, d, tk, os⟩) l items := ⟨_, hl, rfl, n, rfl⟩; wp_walk using wpAny_loadPart' hl
    refine wpAny_stack_any fun st => wpAny_pure ?_; split
    · rename_i c _ _ _ _ _; cases (c == Value.type "enumerate")
      · wp_walk using wpAny_loadPart' hl, wpAny_pyIter_tuple hL; exact ⟨_, rfl, h⟩
      · wp_walk using wpAny_loadPart' hl, wpAny_pyIter_tuple hL; exact ⟨_, rfl, h⟩
    · wp_walk using wpAny_loadPart' hl, wpAny_pyIter_tuple hL; exact ⟨_, rfl, h⟩
theorem call_enumT {prog : Program} {w : World} {A : Around} {E : Value → Shared → Prop} {s : Shared} {l : Addr} {items : Array Value} {Q : Value → Shared → Prop} (hL : s.heap.IsTuple l items)
    (h : ∀ h', IsEnum h' (s.heap.objs.size + 1) s.heap.objs.size 0 .none → h'.IsTupleIter s.heap.objs.size l 0 → h'.objs.size = s.heap.objs.size + 2 → (∀ b o, s.heap.get? b = some o → h'.get? b = some o) → Q (.ref (s.heap.objs.size + 1)) { s with heap := h' }) : wpAny (model prog w) A (call (.type "enumerate") [.ref l]) Q E s := by
  obtain ⟨⟨c, dct, dt, sl⟩, hl, hc, n, hd⟩ := hL; replace hc : c = .type "tuple" := hc; replace hd : dt = .seq items n := hd; subst hc hd
  refine callType_new F.called_enumerate (by decide) (F.typeCall_enumerate_1 _) (F.newCall_enumerate_1 _) (fun obj => F.args_object_init_2 obj _) F.entry_enumerate_new (meets_enumT l items n dct sl) ⟨hl, ?_⟩
  have hz : (s.heap.push { cls := .type "tuple_iterator", data := .fields #[.ref l, .int 0 0] }).objs.size = s.heap.objs.size + 1 := Heap.size_push ..; show _ ∧ _; rw [hz]
  have he : IsEnum ((s.heap.push { cls := .type "tuple_iterator", data := .fields #[.ref l, .int 0 0] }).push { cls := .type "enumerate", data := .fields #[.none, .bool false, .ref s.heap.objs.size, rawInt 0, .none, .none] }) (s.heap.objs.size + 1) s.heap.objs.size 0 .none := by
    have := Heap.get?_push_size (s.heap.push { cls := .type "tuple_iterator", data := .fields #[.ref l, .int 0 0] }) (o := { cls := .type "enumerate", data := .fields #[.none, .bool false, .ref s.heap.objs.size, rawInt 0, .none, .none] }) rfl; rw [hz] at this; exact this
  exact ⟨⟨_, he, rfl⟩, h _ he ⟨_, Heap.get?_push_of_some _ (Heap.get?_push_size _ rfl), rfl, rfl⟩ (by rw [Heap.size_push, hz]) fun b o x => Heap.get?_push_of_some _ (Heap.get?_push_of_some _ x)⟩
theorem next_enum_endT {prog : Program} {w : World} {A : Around} {E : Value → Shared → Prop} {s : Shared} {e it l : Addr} {i : Nat} {items : Array Value} {old : Value} {Q : Option Value → Shared → Prop} (hh : A.handled = none) (he : IsEnum s.heap e it i old) (hit : s.heap.IsTupleIter it l i) (hl : s.heap.IsTuple l items) (hx : items[i]? = none)
    (hQ : ∀ h', Heap.ExtBut it s.heap h' → Q none { s with heap := h' }) : wpAny (model prog w) A (pyNext (.ref e)) Q E s := by
  have hT : s.TypeIs (.ref e) "enumerate" := ⟨_, he, rfl⟩; unfold pyNext
  refine wpAny_bind (wpAny_attempt (wpAny_callSpecial?_slot (name := Str.ofString "__next__") hT F.slot_enumerate_next (wpAny_call_entry F.slot_enumerate_next hT F.entry_enumerate_next ?_ (F.args_enumerate_next_1 _))))
  show wpAny _ _ (field (.ref e) 2 >>= _) _ _ _; refine wpAny_bind (wpAny_field he rfl (x := .ref it) rfl ?_); refine wpAny_bind (wpAny_nextOf_tuple_end hh hit hl hx fun h' x he' hx' => ?_); obtain ⟨o, ho, hc⟩ := hx'
  exact wpAny_bind (wpAny_isInstance (T := "StopIteration") (b := true) ⟨o, ho, hc⟩ isSubtype_stop (wpAny_pure (hQ _ he')))
end PySem
namespace DL
open PySem PySem.Spec PyProof.Rows L2
/-- the tuple at a, each item in a new pair -/
def IteT (K : PySem.W.Frag) (a : Addr) : It :=
  ⟨fun i H => ∃ (xs : List V) (x : V), SqT K H a xs ∧ xs[i]? = some x, fun i H v H' => ∃ T x, v = .ref T ∧ H T = none ∧ H' = upd H T (.tup [.int (i : Nat), x]) ∧ ∀ xs, SqT K H a xs → xs[i]? = some x, fun i H => ∃ xs : List V, SqT K H a xs ∧ xs.length ≤ i⟩
theorem turn_enumT {P : Program} {w : World} {K : PySem.W.Frag} {elts : List Expr} {kk : Nat} {tpos : Pos} (a e it : Addr) (na : a ≠ it) (nae : a ≠ e) :
    Turn P w K (.Tuple elts kk tpos) (IteT K a) [e, it] e (fun i h => (∃ old, IsEnum h e it ((i : Nat) : Int) old) ∧ h.IsTupleIter it a i ∧ e ≠ it) where
  mem := by simp
  obj := fun i h st b hb => by
    obtain ⟨⟨old, he⟩, ⟨o, ho, hc, hd⟩, _⟩ := st; have e' : b = e ∨ b = it := by simpa using hb
    rcases e' with z | z <;> rw [z]
    · exact ⟨_, he, fun v q => nomatch q⟩
    · exact ⟨o, ho, fun v q => by rw [hd] at q; cases q⟩
  keep := fun i h h' st k => let ⟨⟨old, he⟩, hi, hne⟩ := st; ⟨⟨old, k e (by simp) _ he⟩, hi.at fun o q => k it (by simp) o q, hne⟩
  item := by
    intro X hP hw hK hc i pins s σ H E I hf st hg; subst hP hw hK
    obtain ⟨⟨old, he⟩, hit, hne⟩ := st; obtain ⟨xs, x, hq, hx⟩ := hg; obtain ⟨its, rv, p, hz⟩ := I.tuple hq; obtain ⟨u, hu, ru⟩ := rv.get hx
    have hel : e < s.heap.objs.size := Heap.lt_size he; have hil : it < s.heap.objs.size := by obtain ⟨_, q, _⟩ := hit; exact Heap.lt_size q
    have hil' : i < its.toArray.size := by rw [List.size_toArray]; exact (List.getElem?_eq_some_iff.mp hu).1
    refine wpAny_pyNext_enum_itemD (Draws.tuple (A := X.A.in1) (I.ok.hd hc) it a na its.toArray) he ⟨hit, p⟩ hil' hne (by simp only [List.mem_cons, List.not_mem_nil, or_false]; exact fun c => c.elim hne fun c => nae c.symm) fun x' h' tk hx' ho st' hT hsz hk => ?_
    have ex : x' = u := by
      have e1 : its[i]? = some x' := by simpa using hx'
      rw [hu] at e1; exact (Option.some.inj e1).symm
    subst ex
    refine ⟨_, rfl, wpAny_letOwnedTupleGo_enum (s := { s with heap := h', toks := tk + 1 }) ho fun h'' he' sb => ?_⟩
    have hT2 : h''.get? s.heap.objs.size = some { cls := .type "tuple", data := .seq #[.int i tk, x'] } := (sb.2 _ (Nat.ne_of_gt hel)).trans hT
    have new : ObjOk X.prog X.w (upd H s.heap.objs.size (.tup [.int (i : Nat), x])) h'' s.heap.objs.size (.tup [.int (i : Nat), x]) := ⟨by show 2 ≤ sizeLine; decide, [.int i tk, x'], .cons ⟨_, rfl⟩ (.cons ru .nil), ⟨_, hT2, rfl, _, rfl⟩⟩
    have I1 : Inv X pins σ (upd H s.heap.objs.size (.tup [.int (i : Nat), x])) { s with heap := h'', toks := tk + 1 } := I.turnedNew (ch := [e, it]) (fun b ob hb q => (sb.2 b (fun z => hb (by simp [z]))).trans (hk b ob (fun z => hb (by simp [z])) (fun z => hb (by simp [z])) q)) hf (Nat.le_refl _) new
    refine ⟨.ref s.heap.objs.size, _, I1, rfl, ⟨_, x, rfl, I.hok.fresh (Nat.le_refl _), rfl, fun ys hy => by rw [I.tuple_inj hy hq]; exact hx⟩, ⟨⟨x', ?_⟩, st'.1.at fun o q => (sb.2 it (Ne.symm hne)).trans q, hne⟩, fun b hb => ?_⟩
    · have e1 : ((i + 1 : Nat) : Int) = (i : Int) + 1 := by omega
      rw [e1]; exact he'
    · have hb' : b < s.heap.objs.size := by
        have e' : b = e ∨ b = it := by simpa using hb
        rcases e' with z | z <;> rw [z] <;> assumption
      rw [upd_ne (Nat.ne_of_lt hb')]; exact (hf b hb).1
  done := by
    intro X hP hw hK hc i pins s σ H E I hf st hg; subst hP hw hK
    obtain ⟨⟨old, he⟩, hit, hne⟩ := st; obtain ⟨xs, hq, hx⟩ := hg; obtain ⟨its, rv, p, hz⟩ := I.tuple hq; obtain ⟨f0, f1, f2, f3, f4, f5⟩ := hf it (by simp); have hl := rv.length
    exact next_enum_endT (I.ok.hd hc) he hit p (by simp; omega) fun h' eb => ⟨rfl, I.turned (t' := s.toks) (fun b o hb q => eb b o hb q) f0 f1 f3 f4 f5⟩
  self := fun A i s Q E st h => let ⟨⟨_, he⟩, _⟩ := st; wpAny_pyIter_enum he h
def iEnumA (K : PySem.W.Frag) (ta : TA) : TI := fun σ H R => ta σ H fun vs H1 => ∃ a xs, vs = [.ref a] ∧ ((SqL K H1 a xs ∧ R (Ite K a) H1) ∨ (SqT K H1 a xs ∧ R (IteT K a) H1))
theorem pi_enumA {X : Cx} {e : Expr} {ta : TA} {p pos tpos : Pos} {elts : List Expr} {kk : Nat} (hg : Gl X "enumerate") (hm : X.mg "enumerate" = none) (ha : PA X [e] ta) (hs : starEach [e] X.env = [(false, eval e X.env)] := by rfl) : PI X (.Tuple elts kk tpos) (.Call (.Name "enumerate" p) [e] [] pos) (iEnumA X.K ta) := by
  refine ⟨fun pins s σ H R I h => ?_⟩; refine Call_ (ld_blt I hg hm boot_enumerate (PyProof.Rows.callWith_type1 (thn (ha.run pos pins s σ H _ I h) fun us s1 ⟨vs, H1, I1, r1, q1⟩ => ?_) hs rfl))
  obtain ⟨a, xs, ex, hq⟩ := q1; subst ex; obtain ⟨u, rfl, r⟩ := vals1 r1; cases r
  have fp : ∀ b ∈ [s1.heap.objs.size + 1, s1.heap.objs.size], s1.heap.objs.size ≤ b := fun b hb => by
    have e' : b = s1.heap.objs.size + 1 ∨ b = s1.heap.objs.size := by simpa using hb
    rcases e' with z | z <;> rw [z]
    · exact Nat.le_add_right _ _
    · exact Nat.le_refl _
  rcases hq with ⟨hq, q⟩ | ⟨hq, q⟩
  · obtain ⟨its, rv, p', hz⟩ := I1.list hq
    refine call_enumerate_list p'.isList fun h' he hit hsz hk => wpAny_pyIter_enum he ?_; have I2 : Inv X pins σ H1 { s1 with heap := h' } := I1.kept (t' := s1.toks) hk
    exact ⟨s1.heap.objs.size + 1, [s1.heap.objs.size + 1, s1.heap.objs.size], _, _, H1, rfl, I2, turn_enum a (s1.heap.objs.size + 1) s1.heap.objs.size, ⟨⟨.none, he⟩, hit, Nat.succ_ne_self _⟩, fun b hb => I1.fpOk (fp b hb) (I1.hok.fresh (fp b hb)), q⟩
  · obtain ⟨its, rv, p', hz⟩ := I1.tuple hq; have la : a < s1.heap.objs.size := by obtain ⟨_, e, _⟩ := p'; exact Heap.lt_size e
    refine call_enumT p' fun h' he hit hsz hk => wpAny_pyIter_enum he ?_; have I2 : Inv X pins σ H1 { s1 with heap := h' } := I1.kept (t' := s1.toks) hk
    exact ⟨s1.heap.objs.size + 1, [s1.heap.objs.size + 1, s1.heap.objs.size], _, _, H1, rfl, I2, turn_enumT a (s1.heap.objs.size + 1) s1.heap.objs.size (Nat.ne_of_lt la) (Nat.ne_of_lt (Nat.lt_succ_of_lt la)), ⟨⟨.none, he⟩, hit, Nat.succ_ne_self _⟩, fun b hb => I1.fpOk (fp b hb) (I1.hok.fresh (fp b hb)), q⟩
def xEnumA (ta : DT D) : DT (List D) := fun ρ P => ta ρ fun d => ∃ ds, itemsOf d = some ds ∧ P (zipD (rangeD 0 ds.length) ds)
section
variable {T : DKd} {X : Cx} {K : PySem.W.Frag} {HS : Hp} {e : Expr} {ta : DT D} {pos p tpos : Pos} {elts : List Expr} {kk : Nat}
theorem it_enumT {a : Addr} {vs : List V} {ds : List D} (h : SqT K HS a vs) (q : Rvs K HS vs ds) : ItOk T K (IteT K a) HS (zipD (rangeD 0 ds.length) ds) := fun dk HS' H' sm w => by
  have h1 : SqT K H' a vs := same_seqT w.sub (same_seqT sm h)
  refine ⟨fun i d e => ?_, vs, h1, ?_⟩
  · obtain ⟨x, y, ex, ey, rfl⟩ := zipD_get e
    obtain ⟨v, hv, r⟩ := q.getD ey
    refine ⟨⟨vs, v, h1, hv⟩, fun z H'' y => ?_⟩
    obtain ⟨t, v', rfl, hn, rfl, k1⟩ := y
    have e1 := k1 vs h1
    rw [hv] at e1
    cases e1
    obtain ⟨_, ei⟩ := rangeD_get ex
    subst ei
    rw [Int.zero_add]
    obtain ⟨s, rr⟩ := new_tup w hn (.cons (.int _) (.cons (dp_same sm _ _ r) .nil))
    exact ⟨_, s, rr⟩
  · rw [zipD_len, rangeD_len, ← q.len]; omega
theorem dit_enumA (hg : Gl X "enumerate") (hm : X.mg "enumerate" = none) (he : DE T X e ta) (hs : starEach [e] X.env = [(false, eval e X.env)] := by rfl) (hs2 : starEach [e] X.env = (false, eval e X.env) :: starEach [] X.env := by rfl) : DIt T X (.Tuple elts kk tpos) (.Call (.Name "enumerate" p) [e] [] pos) (xEnumA ta) :=
  ⟨PI.imp (pi_enumA hg hm (pa_cons he.pe pa_nil hs2) hs) fun σ H R h => by
    obtain ⟨en, ρ, dk, HS, P, E, q, k⟩ := h
    refine ⟨en, ρ, dk, HS, _, E, q, fun d v HS1 H1 p s r => ?_⟩
    obtain ⟨ds, e1, p⟩ := p
    cases d <;> try cases e1
    case list =>
      cases r with
      | lst h q => exact ⟨_, _, rfl, .inl ⟨SqL.of (s.wd.sub _ _ h), k _ _ HS1 H1 p s (it_enumL h q)⟩⟩
    case tuple =>
      cases r with
      | tup h q => exact ⟨_, _, rfl, .inr ⟨SqT.of (s.wd.sub _ _ h), k _ _ HS1 H1 p s (it_enumT (SqT.of h) q)⟩⟩⟩
end
end DL

namespace DL
open PySem PySem.Spec PyProof.Rows L2

/-! ### range with a step -/
def rangeC (lo c : Int) (n : Nat) : List D := (List.range n).map fun (i : Nat) => .int (lo + (i : Int) * c)
/-- range(i, j, c) -/
def xRg3 (ta tb tc : DT D) : DT (List D) := fun ρ P => ta ρ fun d => tb ρ fun d2 => tc ρ fun d3 => ∃ i j c n, d = .int i ∧ d2 = .int j ∧ d3 = .int c ∧ RgC i j c n ∧ P (rangeC i c n)
section
variable {T : DKd} {X : Cx} {K : PySem.W.Frag} {HS : Hp} {tg e e2 e3 : Expr} {ta tb tc : DT D} {pos p : Pos}
theorem it_rngC {lo c : Int} {n : Nat} : ItOk T K (Itc lo c n) HS (rangeC lo c n) := fun dk HS' H' sm w => by
  refine ⟨fun i d e => ?_, by show n ≤ (rangeC lo c n).length; unfold rangeC; simp⟩
  unfold rangeC at e
  rw [List.getElem?_map] at e
  by_cases hi : i < n
  · rw [List.getElem?_range hi] at e
    cases e
    refine ⟨hi, fun x H'' y => ?_⟩
    obtain ⟨rfl, rfl⟩ := y
    exact ⟨HS', Stp.refl w, .int _⟩
  · rw [List.getElem?_eq_none (by simpa using hi)] at e
    cases e
theorem dit_rg3 (hg : Gl X "range") (hm : X.mg "range" = none) (he : DE T X e ta) (he2 : DE T X e2 tb) (he3 : DE T X e3 tc) (n1 : starEach [e, e2, e3] X.env = (false, eval e X.env) :: starEach [e2, e3] X.env := by rfl) (n2 : starEach [e2, e3] X.env = (false, eval e2 X.env) :: starEach [e3] X.env := by rfl)
    (n3 : starEach [e3] X.env = (false, eval e3 X.env) :: starEach [] X.env := by rfl) (hpl : (backTo pos (starEach [e2, e3] X.env)).any (·.1) = false := by rfl) : DIt T X tg (.Call (.Name "range" p) [e, e2, e3] [] pos) (xRg3 ta tb tc) :=
  ⟨PI.imp (pi_range3 hg hm (pa_cons he.pe (pa_cons he2.pe (pa_cons he3.pe pa_nil n3) n2) n1) n1 hpl) fun σ H R h => by
    obtain ⟨en, ρ, dk, HS, P, E, q, k⟩ := h
    refine ⟨en, ρ, dk, HS, _, E, q, fun d v HS1 H1 p s r => ⟨en, ρ, dk, HS1, _, E.stp s, p, fun d2 v2 HS2 H2 p2 s2 r2 => ⟨en, ρ, dk, HS2, _, (E.stp s).stp s2, p2, fun d3 v3 HS3 H3 p3 s3 r3 => ?_⟩⟩⟩
    obtain ⟨i, j, c, n, rfl, rfl, rfl, ok, p3⟩ := p3
    cases r
    cases r2
    cases r3
    exact ⟨i, j, c, n, rfl, ok, k _ _ HS3 H3 p3 ((s.trans s2).trans s3) it_rngC⟩⟩
end
theorem rangeC_get {lo c : Int} {n i : Nat} {d : D} (h : (rangeC lo c n)[i]? = some d) : i < n ∧ d = .int (lo + (i : Int) * c) := by
  unfold rangeC at h
  rw [List.getElem?_map] at h
  by_cases hi : i < n
  · rw [List.getElem?_range hi] at h
    exact ⟨hi, (Option.some.inj h).symm⟩
  · rw [List.getElem?_eq_none (by simpa using hi)] at h
    cases h
/-- for i in range(lo, .., c) -/
theorem for_rgC {g : DTg} {b : DTS} {P : EndsD} {lo c : Int} {n : Nat} {ρ : Envd} (I : Nat → Envd → Prop) (h0 : I 0 ρ)
    (hs : ∀ (i : Nat) (ρ : Envd) (K : Envd → Prop), i < n → I i ρ → (∀ ρ', I (i + 1) ρ' → K ρ') → g (.int (lo + (i : Int) * c)) ρ fun ρ1 => b { P with nx := K, ct := K, bk := P.nx } ρ1)
    (hd : ∀ ρ, I n ρ → P.nx ρ) : forL g b P (rangeC lo c n) ρ :=
  forL_inv I _ 0 ρ h0 (fun i d ρ K e h1 h2 => by
    obtain ⟨hi, rfl⟩ := rangeC_get e
    rw [Nat.zero_add] at h1 h2
    exact hs i ρ K hi h1 h2) fun ρ h => hd ρ (by unfold rangeC at h; rw [List.length_map, List.length_range, Nat.zero_add] at h; exact h)
end DL

namespace HT
open PySem PySem.Spec PyProof.Rows L2
section
variable {prog : Program} {w : World} {A : Around} {E : Value → Shared → Prop} {s : Shared}
theorem adjust_rev (n : Nat) : Builtin.Slice.sliceAdjust none none (-1) (n : Int) = ((n : Int) - 1, -1) := by
  unfold Builtin.Slice.sliceAdjust
  simp only [show ((-1 : Int) < 0) = True from eq_true (by decide), if_true]
theorem places_rev (n : Nat) : Builtin.Slice.slicePlaces ((n : Int) - 1) (-1) (-1) = n := by
  unfold Builtin.Slice.slicePlaces
  have h1 : ¬ ((-1 : Int) > 0) := by omega
  simp only [h1, if_false, show -(-1 : Int) = 1 by decide, Int.ediv_one]
  split <;> omega
theorem applied_rev {sl : Addr} {vs : Value} {n : Nat} {Q : Int × Int × Nat → Shared → Prop} (hs : s.heap.IsSliceOf sl .none .none vs) (ps : IsPart vs (some (-1))) (h : Q ((n : Int) - 1, -1, n) s) : wpAny (model prog w) A (Builtin.Slice.sliceApplied (.ref sl) (pure (n : Int))) Q E s := by
  obtain ⟨os, hos, hcs, hds⟩ := id hs; unfold Builtin.Slice.sliceApplied Builtin.Slice.sliceFields
  refine wpAny_bind (wpAny_bind (wpAny_field hos hds (x := .none) rfl (wpAny_bind (wpAny_field hos hds (x := .none) rfl (wpAny_bind (wpAny_field hos hds (x := vs) rfl (wpAny_pure ?_)))))))
  refine wpAny_bind (slicePart_ ps ?_); show wpAny _ _ (if ((-1 : Int) == 0) = true then _ else _) _ _ s; rw [if_neg (by decide)]
  refine wpAny_bind (slicePart_none (wpAny_bind (slicePart_none (wpAny_bind (wpAny_pure ?_)))))
  show wpAny _ _ (match Builtin.Slice.sliceAdjust none none (-1) (n : Int) with | (lo, hi) => pure (lo, (-1 : Int), Builtin.Slice.slicePlaces lo hi (-1))) _ _ s
  rw [adjust_rev n]; show wpAny _ _ (pure ((n : Int) - 1, (-1 : Int), Builtin.Slice.slicePlaces ((n : Int) - 1) (-1) (-1))) _ _ s; rw [places_rev]; exact wpAny_pure h
theorem pick_rev (xs : Array Value) : ((List.range xs.size).filterMap fun (m : Nat) => xs[((xs.size : Int) - 1 + (m : Int) * -1).toNat]?).toArray = xs.toList.reverse.toArray := by
  have e : (fun (m : Nat) => xs[((xs.size : Int) - 1 + (m : Int) * -1).toNat]?) = (fun k => xs[k]?) ∘ fun (m : Nat) => ((xs.size : Int) - 1 + (m : Int) * -1).toNat := rfl
  rw [e, ← List.filterMap_map]
  have e2 : (List.range xs.size).map (fun (m : Nat) => ((xs.size : Int) - 1 + (m : Int) * -1).toNat) = (List.range xs.size).reverse := by
    rw [← PySem.W.krv_range]
    refine List.map_congr_left fun k hk => ?_
    have := List.mem_range.mp hk
    omega
  rw [e2, List.filterMap_reverse, PySem.W.krv_all]
theorem getItem_tuple_rev {t sl : Addr} {items : Array Value} {vs : Value} {Q : Value → Shared → Prop} (ht : IsTup s.heap t items) (hs : s.heap.IsSliceOf sl .none .none vs) (ps : IsPart vs (some (-1))) (hsz : items.size ≤ sizeLine)
    (h : Q (.ref s.heap.objs.size) { s with heap := s.heap.push { cls := .type "tuple", data := .seq items.toList.reverse.toArray } }) : wpAny (model prog w) A (getItem (.ref t) (.ref sl)) Q E s := by
  have htake : sizeOk (.seq items.toList.reverse.toArray) := by show items.toList.reverse.toArray.size ≤ sizeLine; rw [List.size_toArray, List.length_reverse, Array.length_toList]; exact hsz
  obtain ⟨os, hos, hcs, hds⟩ := id hs; have hTs : s.TypeIs (.ref sl) "slice" := ⟨os, hos, hcs⟩; unfold getItem
  try with_reducible refine wpAny_holding ?_
  first | refine wpAny_bind (wpAny_pure ?_) | skip
  refine wpAny_bind (wpAny_sequenceKey ht.typeIs (by decide) ?_); refine wpAny_bind (wpAny_callSpecial?_slot (name := Str.ofString "__getitem__") ht.typeIs PyProof.Rows.slot_tuple_getitem (wpAny_call_entry PyProof.Rows.slot_tuple_getitem ht.typeIs entry_tuple_getitem ?_ (args_tuple_getitem _ _)))
  show wpAny _ _ (Builtin.Tuple.tupleItemsOf (.ref t) >>= _) _ _ s; refine wpAny_bind (tupleItemsOf_ ht ?_); refine wpAny_bind (wpAny_typeOf hTs ?_); rw [if_pos (by decide)]
  refine wpAny_bind (applied_rev hs ps ?_)
  have hno : ¬ ((((items.size : Int) - 1) == 0 && (-1 : Int) == 1 && items.size == items.size) = true) := by
    intro q
    rw [Bool.and_eq_true, Bool.and_eq_true] at q
    exact absurd q.1.2 (by decide)
  show wpAny _ _ (if (((items.size : Int) - 1) == 0 && (-1 : Int) == 1 && items.size == items.size) = true then _ else _) _ _ s
  rw [if_neg hno, pick_rev]
  first | exact wpAny_bind (m := Builtin.Tuple.tupleExact _) (wpAny_newObj_type (wpAny_pure ⟨_, rfl, wpAny_pure h⟩) htake) | exact wpAny_bind (m := Builtin.Tuple.tupleExact _) (wpAny_newObj_type (wpAny_bind (wpAny_pure (wpAny_pure ⟨_, rfl, wpAny_pure h⟩))) htake) | exact wpAny_bind (wpAny_bind (m := Builtin.Tuple.tupleExact _) (wpAny_newObj_type (wpAny_pure (wpAny_pure ⟨_, rfl, wpAny_pure h⟩)) htake)) | exact wpAny_bind (wpAny_bind (m := Builtin.Tuple.tupleExact _) (wpAny_newObj_type (wpAny_pure ⟨_, rfl, wpAny_pure h⟩) htake))
end
end HT
namespace DL
open PySem PySem.Spec PyProof.Rows L2
def tRevA (K : PySem.W.Frag) (te : TE) : TE := fun σ H Q => te σ H fun x H1 => ∃ a xs, x = .ref a ∧ ((SqL K H1 a xs ∧ ∀ p, H1 p = none → Q (.ref p) (upd H1 p (.lst xs.reverse))) ∨ (SqT K H1 a xs ∧ ∀ p, H1 p = none → Q (.ref p) (upd H1 p (.tup xs.reverse))))
theorem pe_revA {X : Cx} {e : Expr} {te : TE} {k : Nat} {p1 p2 p3 pos : Pos} (he : PE X e te) : PE X (.Subscript e (.Slice none none (some (.UnaryOp .USub (.Constant (.int 1) k p1) p2)) p3) pos) (tRevA X.K te) := ⟨fun pins s σ H Q I h => by
  refine Subscript_ (thn (he.run pins s σ H _ I h) fun v s1 ⟨x, H1, I1, r1, q1⟩ => ?_)
  obtain ⟨a, xs, ex, hx⟩ := q1; subst ex; cases r1
  have hst : PO X (some (.UnaryOp .USub (.Constant (.int 1) k p1) p2)) (tPart (tUn (rU fun i => .int (-i)) (tC (.int 1)))) := po_some (pe_un un_neg pe_int)
  refine wpAny_Slice (thn (po_none.run pins s1 σ H1 (fun o H2 => o = none ∧ H2 = H1) I1 ⟨rfl, rfl⟩) fun vl s2 ⟨l, H2, I2, pl, el, e2⟩ => ?_); subst el e2
  refine thn (po_none.run pins s2 σ H2 (fun o H3 => o = none ∧ H3 = H2) I2 ⟨rfl, rfl⟩) fun vu s3 ⟨u, H3, I3, pu, eu, e3⟩ => ?_; subst eu e3
  refine thn (hst.run pins s3 σ H3 (fun o H4 => o = some (-1) ∧ H4 = H3) I3 ⟨1, rfl, -1, rfl, rfl, rfl⟩) fun vs s4 ⟨o, H4, I4, ps, eo, e4⟩ => ?_; subst eo e4
  have I5 : Inv X pins σ H4 { s4 with heap := s4.heap.push { cls := .type "slice", data := .fields #[vl, vu, vs] } } := I4.kept (t' := s4.toks) fun b ob q => Heap.get?_push_of_some _ q
  rcases hx with ⟨hx, q⟩ | ⟨hx, q⟩
  · obtain ⟨its, r, ht, hz⟩ := I5.list hx; have hlen := r.length
    show wpAny (model X.prog X.w) X.A (subscriptTail e (.Slice none none (some (.UnaryOp .USub (.Constant (.int 1) k p1) p2)) p3) (.ref a) (.ref s4.heap.objs.size)) (EP X pins σ Q) X.xe { s4 with heap := s4.heap.push { cls := .type "slice", data := .fields #[vl, vu, vs] } }
    refine tail_any (ops := [.ref a, .ref s4.heap.objs.size]) ht.isList.typeIs (PySem.slot_list_getitem.lookup) ?_ (by with_unfolding_all rfl)
    refine wpAny_getItem_list_slice ht.isList (Heap.IsSliceOf.new _ vl vu vs) pl pu ps (by decide) ?_ (by rw [List.size_toArray]; omega)
    rw [PySem.W.krv_pick]
    exact ⟨.ref _, _, I5.laid (t' := s4.toks) (o := .lst xs.reverse) (fun b ob q => Heap.get?_push_of_some _ q) (Nat.le_refl _) ⟨by rw [List.length_reverse]; exact hz, _, 0, r.reverse, Heap.get?_push_size _ rfl⟩, rfl, q _ (I5.hok.fresh (Nat.le_refl _))⟩
  · obtain ⟨its, r, ht, hz⟩ := I5.tuple hx; have hlen := r.length; cases pl; cases pu
    show wpAny (model X.prog X.w) X.A (subscriptTail e (.Slice none none (some (.UnaryOp .USub (.Constant (.int 1) k p1) p2)) p3) (.ref a) (.ref s4.heap.objs.size)) (EP X pins σ Q) X.xe { s4 with heap := s4.heap.push { cls := .type "slice", data := .fields #[.none, .none, vs] } }
    refine tail_any (ops := [.ref a, .ref s4.heap.objs.size]) ht.typeIs (PyProof.Rows.slot_tuple_getitem.lookup) ?_ (by with_unfolding_all rfl)
    refine HT.getItem_tuple_rev ht (Heap.IsSliceOf.new _ .none .none vs) ps (by rw [List.size_toArray]; omega) ?_
    exact ⟨.ref _, _, I5.laid (t' := s4.toks) (o := .tup xs.reverse) (fun b ob q => Heap.get?_push_of_some _ q) (Nat.le_refl _) ⟨by rw [List.length_reverse]; exact hz, _, r.reverse, IsTup.new _ _⟩, rfl, q _ (I5.hok.fresh (Nat.le_refl _))⟩⟩
def oRevA : D → Option D
  | .list ds => some (.list ds.reverse)
  | .tuple ds => some (.tuple ds.reverse)
  | _ => none
section
variable {T : DKd} {X : Cx} {e : Expr} {ta : DT D} {pos : Pos}
theorem d_revA {k0 : Nat} {p1 p2 p3 : Pos} (he : DR T X e ta) : DE T X (.Subscript e (.Slice none none (some (.UnaryOp .USub (.Constant (.int 1) k0 p1) p2)) p3) pos) (x1 oRevA ta) :=
  ⟨PE.imp (pe_revA he.pe) fun σ H Q h => by
    obtain ⟨en, ρ, dk, HS, P, E, q, k⟩ := h
    refine ⟨en, ρ, dk, HS, _, E, q, fun d v HS1 H1 p s r => ?_⟩
    obtain ⟨z, e, pz⟩ := p
    cases d <;> try cases e
    case list ds =>
      obtain ⟨a, vs, rfl, h1, q1⟩ := r.lst s.wd
      refine ⟨a, vs, rfl, .inl ⟨SqL.of h1, fun b hb => ?_⟩⟩
      obtain ⟨s2, rv⟩ := new_lst s.wd hb q1.revA
      exact k _ _ _ _ pz (s.trans s2) rv
    case tuple ds =>
      obtain ⟨a, vs, rfl, _, h1, q1⟩ := r.tup s.wd
      refine ⟨a, vs, rfl, .inr ⟨h1, fun b hb => ?_⟩⟩
      obtain ⟨s2, rv⟩ := new_tup s.wd hb q1.revA
      exact k _ _ _ _ pz (s.trans s2) rv⟩
end
end DL

namespace DL
open PySem PySem.Spec PyProof.Rows L2

/-! ### the source of drawn numbers of the second kind: a dict of a list, a seal and a turn -/
def potKV (g : Addr) (m t : Int) : List (Key × V) := [(.inr "great", .ref g), (.inr "seal", .int m), (.inr "turn", .int t)]
theorem pot_putT (g : Addr) (m t u : Int) : putK (potKV g m t) (.inr "turn") (.int u) = potKV g m u := rfl
theorem pot_putM (g : Addr) (m t u : Int) : putK (potKV g m t) (.inr "seal") (.int u) = potKV g u t := rfl
def potT : DKd where
  lies H p g := ∃ (gs : List Int) (m t : Int), H p = some (.dK (potKV g m t)) ∧ H g = some (.lst (gs.map V.int)) ∧ gs.length ≤ 63 ∧ 0 ≤ m ∧ m < 2 ^ 32
  loc h1 h2 := fun ⟨gs, m, t, a, b, c⟩ => ⟨gs, m, t, h1 ▸ a, h2 ▸ b, c⟩
  fstS := fun ⟨_, _, _, a, _⟩ z => by rw [a] at z; cases z
  sndS := fun ⟨_, _, _, _, b, _⟩ z => by rw [b] at z; cases z
theorem get_ints {cs : List Int} {i : Nat} {d : D} (e : (cs.map PyData.int)[i]? = some d) : ∃ c, cs[i]? = some c ∧ d = .int c := by
  rw [List.getElem?_map] at e
  obtain ⟨c, h1, h2⟩ := Option.map_eq_some_iff.mp e
  exact ⟨c, h1, h2.symm⟩
theorem env_plain {T : DKd} {K : PySem.W.Frag} {H : Hp} {σ : L2.St} {ρ : Envd} (hl : σ.length = ρ.length) (hs : ∀ (i : Nat) (s : Slot), ρ[i]? = some s → ∃ x, σ[i]? = some x ∧ SlotR K none H H s x) (ho : ∀ (i : Nat) (ds : List D), ρ[i]? ≠ some (.own ds)) :
    EnvR T K ⟨H, H, none⟩ ρ none H H σ :=
  ⟨⟨⟨Same.refl _, fun b m => m.elim, fun p g e => nomatch e⟩, Same.refl _, fun b o h _ => h, fun b h h' => absurd h h', .inr rfl, fun _ b m => m.elim⟩, hl, hs, fun i j ds es p e _ _ _ => absurd e (ho i ds), fun i ds p e _ => absurd e (ho i ds), D2.none fun i t kvs e => by
    obtain ⟨x, _, p, o, _, _, n, h, _⟩ := hs i _ e
    rw [n] at h; cases h⟩
theorem cut62 (ns : List Int) : cutV (ns.map V.int) none (some 62) = (ns.take 62).map V.int := by
  unfold cutV
  rw [HT.sIx_none, show HT.sIx (ns.map V.int).length (ns.map V.int).length (some 62) = min 62 (ns.map V.int).length from HT.sIx_nat _ _ 62, List.drop_zero, Nat.sub_zero, List.length_map, ← List.map_take]
  congr 1
  by_cases h : 62 ≤ ns.length
  · rw [Nat.min_eq_left h]
  · rw [Nat.min_eq_right (by omega), List.take_of_length_le (Nat.le_refl _), List.take_of_length_le (by omega)]
end DL

namespace HT
open PySem PySem.Spec PyProof.Rows L2
section
variable {prog : Program} {w : World} {A : Around} {E : Value → Shared → Prop} {s : Shared}
theorem adjust_rev0 (n : Nat) : Builtin.Slice.sliceAdjust none (some 0) (-1) (n : Int) = ((n : Int) - 1, if n = 0 then -1 else 0) := by
  unfold Builtin.Slice.sliceAdjust
  simp only [show ((-1 : Int) < 0) = True from eq_true (by decide), if_true]
  by_cases h : n = 0
  · subst h; rfl
  · rw [if_neg h]
    have h1 : ¬ ((0 : Int) < 0) := by omega
    have h2 : ¬ ((n : Int) ≤ 0) := by omega
    simp [h1, h2]
    try omega
theorem places_rev0 (n : Nat) : Builtin.Slice.slicePlaces ((n : Int) - 1) (if n = 0 then -1 else 0) (-1) = n - 1 := by
  unfold Builtin.Slice.slicePlaces
  have h1 : ¬ ((-1 : Int) > 0) := by omega
  simp only [h1, if_false, show -(-1 : Int) = 1 by decide, Int.ediv_one]
  split <;> split <;> omega
theorem applied_rev0 {sl : Addr} {vu vs : Value} {n : Nat} {Q : Int × Int × Nat → Shared → Prop} (hs : s.heap.IsSliceOf sl .none vu vs) (pu : IsPart vu (some 0)) (ps : IsPart vs (some (-1))) (h : Q ((n : Int) - 1, -1, n - 1) s) : wpAny (model prog w) A (Builtin.Slice.sliceApplied (.ref sl) (pure (n : Int))) Q E s := by
  obtain ⟨os, hos, hcs, hds⟩ := id hs; unfold Builtin.Slice.sliceApplied Builtin.Slice.sliceFields
  refine wpAny_bind (wpAny_bind (wpAny_field hos hds (x := .none) rfl (wpAny_bind (wpAny_field hos hds (x := vu) rfl (wpAny_bind (wpAny_field hos hds (x := vs) rfl (wpAny_pure ?_)))))))
  refine wpAny_bind (slicePart_ ps ?_); show wpAny _ _ (if ((-1 : Int) == 0) = true then _ else _) _ _ s; rw [if_neg (by decide)]
  refine wpAny_bind (slicePart_none (wpAny_bind (slicePart_ pu (wpAny_bind (wpAny_pure ?_)))))
  show wpAny _ _ (match Builtin.Slice.sliceAdjust none (some 0) (-1) (n : Int) with | (lo, hi) => pure (lo, (-1 : Int), Builtin.Slice.slicePlaces lo hi (-1))) _ _ s
  rw [adjust_rev0 n]; show wpAny _ _ (pure ((n : Int) - 1, (-1 : Int), Builtin.Slice.slicePlaces ((n : Int) - 1) (if n = 0 then -1 else 0) (-1))) _ _ s; rw [places_rev0]; exact wpAny_pure h
theorem filterMap_get {α : Type} : ∀ (r : List α), (List.range r.length).filterMap (fun m => r[m]?) = r
  | [] => rfl
  | a :: r => by
    rw [List.length_cons, List.range_succ_eq_map, List.filterMap_cons]
    show a :: ((List.range r.length).map Nat.succ).filterMap (fun m => (a :: r)[m]?) = a :: r
    rw [List.filterMap_map]
    congr 1
    exact filterMap_get r
theorem pick_rev0 (xs : Array Value) : ((List.range (xs.size - 1)).filterMap fun (m : Nat) => xs[((xs.size : Int) - 1 + (m : Int) * -1).toNat]?).toArray = xs.toList.tail.reverse.toArray := by
  obtain ⟨l⟩ := xs
  cases l with
  | nil => rfl
  | cons a r =>
    congr 1
    simp only [List.size_toArray, List.length_cons, Nat.add_sub_cancel, List.tail_cons, List.getElem?_toArray]
    have e : (fun (m : Nat) => (a :: r)[(((r.length + 1 : Nat) : Int) - 1 + (m : Int) * -1).toNat]?) = (fun k => (a :: r)[k]?) ∘ fun (m : Nat) => (((r.length + 1 : Nat) : Int) - 1 + (m : Int) * -1).toNat := rfl
    rw [e, ← List.filterMap_map]
    have e2 : (List.range r.length).map (fun (m : Nat) => (((r.length + 1 : Nat) : Int) - 1 + (m : Int) * -1).toNat) = ((List.range r.length).map Nat.succ).reverse := by
      rw [← List.map_reverse, ← PySem.W.krv_range, List.map_map]
      refine List.map_congr_left fun k hk => ?_
      have := List.mem_range.mp hk
      simp only [Function.comp_apply]
      omega
    rw [e2, List.filterMap_reverse, List.filterMap_map]
    congr 1
    exact filterMap_get r
theorem getItem_tuple_rev0 {t sl : Addr} {items : Array Value} {vu vs : Value} {Q : Value → Shared → Prop} (ht : IsTup s.heap t items) (hs : s.heap.IsSliceOf sl .none vu vs) (pu : IsPart vu (some 0)) (ps : IsPart vs (some (-1))) (hsz : items.size ≤ sizeLine)
    (h : Q (.ref s.heap.objs.size) { s with heap := s.heap.push { cls := .type "tuple", data := .seq items.toList.tail.reverse.toArray } }) : wpAny (model prog w) A (getItem (.ref t) (.ref sl)) Q E s := by
  have htake : sizeOk (.seq items.toList.tail.reverse.toArray) := by show items.toList.tail.reverse.toArray.size ≤ sizeLine; rw [List.size_toArray, List.length_reverse, List.length_tail, Array.length_toList]; omega
  obtain ⟨os, hos, hcs, hds⟩ := id hs; have hTs : s.TypeIs (.ref sl) "slice" := ⟨os, hos, hcs⟩; unfold getItem
  try with_reducible refine wpAny_holding ?_
  first | refine wpAny_bind (wpAny_pure ?_) | skip
  refine wpAny_bind (wpAny_sequenceKey ht.typeIs (by decide) ?_); refine wpAny_bind (wpAny_callSpecial?_slot (name := Str.ofString "__getitem__") ht.typeIs PyProof.Rows.slot_tuple_getitem (wpAny_call_entry PyProof.Rows.slot_tuple_getitem ht.typeIs entry_tuple_getitem ?_ (args_tuple_getitem _ _)))
  show wpAny _ _ (Builtin.Tuple.tupleItemsOf (.ref t) >>= _) _ _ s; refine wpAny_bind (tupleItemsOf_ ht ?_); refine wpAny_bind (wpAny_typeOf hTs ?_); rw [if_pos (by decide)]
  refine wpAny_bind (applied_rev0 hs pu ps ?_)
  have hno : ¬ ((((items.size : Int) - 1) == 0 && (-1 : Int) == 1 && (items.size - 1) == items.size) = true) := by
    intro q
    rw [Bool.and_eq_true, Bool.and_eq_true] at q
    exact absurd q.1.2 (by decide)
  show wpAny _ _ (if (((items.size : Int) - 1) == 0 && (-1 : Int) == 1 && (items.size - 1) == items.size) = true then _ else _) _ _ s
  rw [if_neg hno, pick_rev0]
  first | exact wpAny_bind (m := Builtin.Tuple.tupleExact _) (wpAny_newObj_type (wpAny_pure ⟨_, rfl, wpAny_pure h⟩) htake) | exact wpAny_bind (m := Builtin.Tuple.tupleExact _) (wpAny_newObj_type (wpAny_bind (wpAny_pure (wpAny_pure ⟨_, rfl, wpAny_pure h⟩))) htake) | exact wpAny_bind (wpAny_bind (m := Builtin.Tuple.tupleExact _) (wpAny_newObj_type (wpAny_pure (wpAny_pure ⟨_, rfl, wpAny_pure h⟩)) htake)) | exact wpAny_bind (wpAny_bind (m := Builtin.Tuple.tupleExact _) (wpAny_newObj_type (wpAny_pure ⟨_, rfl, wpAny_pure h⟩) htake))
end
end HT
namespace DL
open PySem PySem.Spec PyProof.Rows L2
/-! ### xs[:0:-1] of a tuple -/
def tRev0 (K : PySem.W.Frag) (te : TE) : TE := fun σ H Q => te σ H fun x H1 => ∃ a xs, x = .ref a ∧ SqT K H1 a xs ∧ ∀ p, H1 p = none → Q (.ref p) (upd H1 p (.tup xs.tail.reverse))
theorem vals_tail {xs : List V} {us : List Value} (r : Vals xs us) : Vals xs.tail us.tail := by
  cases r with
  | nil => exact .nil
  | cons h t => exact t
theorem pe_rev0 {X : Cx} {e : Expr} {te : TE} {k k2 : Nat} {p1 p2 p3 p4 pos : Pos} (he : PE X e te) : PE X (.Subscript e (.Slice none (some (.Constant (.int 0) k2 p4)) (some (.UnaryOp .USub (.Constant (.int 1) k p1) p2)) p3) pos) (tRev0 X.K te) := ⟨fun pins s σ H Q I h => by
  refine Subscript_ (thn (he.run pins s σ H _ I h) fun v s1 ⟨x, H1, I1, r1, q1⟩ => ?_)
  obtain ⟨a, xs, ex, hx, q⟩ := q1; subst ex; cases r1
  have hst : PO X (some (.UnaryOp .USub (.Constant (.int 1) k p1) p2)) (tPart (tUn (rU fun i => .int (-i)) (tC (.int 1)))) := po_some (pe_un un_neg pe_int)
  have hup : PO X (some (.Constant (.int 0) k2 p4)) (tPart (tC (.int 0))) := po_some pe_int
  refine wpAny_Slice (thn (po_none.run pins s1 σ H1 (fun o H2 => o = none ∧ H2 = H1) I1 ⟨rfl, rfl⟩) fun vl s2 ⟨l, H2, I2, pl, el, e2⟩ => ?_); subst el e2
  refine thn (hup.run pins s2 σ H2 (fun o H3 => o = some 0 ∧ H3 = H2) I2 ⟨0, rfl, rfl, rfl⟩) fun vu s3 ⟨u, H3, I3, pu, eu, e3⟩ => ?_; subst eu e3
  refine thn (hst.run pins s3 σ H3 (fun o H4 => o = some (-1) ∧ H4 = H3) I3 ⟨1, rfl, -1, rfl, rfl, rfl⟩) fun vs s4 ⟨o, H4, I4, ps, eo, e4⟩ => ?_; subst eo e4
  have I5 : Inv X pins σ H4 { s4 with heap := s4.heap.push { cls := .type "slice", data := .fields #[vl, vu, vs] } } := I4.kept (t' := s4.toks) fun b ob q => Heap.get?_push_of_some _ q
  obtain ⟨its, r, ht, hz⟩ := I5.tuple hx; have hlen := r.length; cases pl
  show wpAny (model X.prog X.w) X.A (subscriptTail e (.Slice none (some (.Constant (.int 0) k2 p4)) (some (.UnaryOp .USub (.Constant (.int 1) k p1) p2)) p3) (.ref a) (.ref s4.heap.objs.size)) (EP X pins σ Q) X.xe { s4 with heap := s4.heap.push { cls := .type "slice", data := .fields #[.none, vu, vs] } }
  refine tail_any (ops := [.ref a, .ref s4.heap.objs.size]) ht.typeIs (PyProof.Rows.slot_tuple_getitem.lookup) ?_ (by with_unfolding_all rfl)
  refine HT.getItem_tuple_rev0 ht (Heap.IsSliceOf.new _ .none vu vs) pu ps (by rw [List.size_toArray]; omega) ?_
  exact ⟨.ref _, _, I5.laid (t' := s4.toks) (o := .tup xs.tail.reverse) (fun b ob q => Heap.get?_push_of_some _ q) (Nat.le_refl _) ⟨by rw [List.length_reverse, List.length_tail]; omega, _, (vals_tail r).reverse, IsTup.new _ _⟩, rfl, q _ (I5.hok.fresh (Nat.le_refl _))⟩⟩
def oRev0 : D → Option D
  | .tuple ds => some (.tuple ds.tail.reverse)
  | _ => none
theorem Rvs.tailA {K : PySem.W.Frag} {H : Hp} {vs : List V} {ds : List D} (r : Rvs K H vs ds) : Rvs K H vs.tail ds.tail := by
  cases r with
  | nil => exact .nil
  | cons h t => exact t
section
variable {T : DKd} {X : Cx} {e : Expr} {ta : DT D} {pos : Pos}
theorem d_rev0 {k0 k2 : Nat} {p1 p2 p3 p4 : Pos} (he : DR T X e ta) : DE T X (.Subscript e (.Slice none (some (.Constant (.int 0) k2 p4)) (some (.UnaryOp .USub (.Constant (.int 1) k0 p1) p2)) p3) pos) (x1 oRev0 ta) :=
  ⟨PE.imp (pe_rev0 he.pe) fun σ H Q h => by
    obtain ⟨en, ρ, dk, HS, P, E, q, k⟩ := h
    refine ⟨en, ρ, dk, HS, _, E, q, fun d v HS1 H1 p s r => ?_⟩
    obtain ⟨z, e, pz⟩ := p
    cases d <;> try cases e
    case tuple ds =>
      obtain ⟨a, vs, rfl, _, h1, q1⟩ := r.tup s.wd
      refine ⟨a, vs, rfl, h1, fun b hb => ?_⟩
      obtain ⟨s2, rv⟩ := new_tup s.wd hb q1.tailA.revA
      exact k _ _ _ _ pz (s.trans s2) rv⟩
end
end DL

namespace ZM
open PySem PySem.Spec PyProof.Rows L2
open PySem.Sem (wp)
/-! ### zip of two rows, each a list or a tuple -/
def ItB (b : Bool) (h : Heap) (it l : Addr) (k : Nat) : Prop := match b with
  | true => h.IsTupleIter it l k
  | false => h.IsListIter it l k
def SqB (b : Bool) (h : Heap) (l : Addr) (xs : Array Value) : Prop := match b with
  | true => h.IsTuple l xs
  | false => h.IsList l xs
section
variable {b : Bool} {h h' : Heap} {it l c : Addr} {k : Nat} {xs : Array Value}
theorem ItB.move (x : ItB b h it l k) (e : ∀ o, h.get? it = some o → h'.get? it = some o) : ItB b h' it l k := by
  cases b
  · exact Heap.IsListIter.at x e
  · exact Heap.IsTupleIter.at x e
theorem ItB.ext (x : ItB b h it l k) (e : Heap.ExtBut c h h') (n : it ≠ c) : ItB b h' it l k := x.move fun o q => e _ _ n q
theorem SqB.ext (x : SqB b h l xs) (e : Heap.ExtBut c h h') (n : l ≠ c) : SqB b h' l xs := by
  cases b
  · exact Heap.IsList.extBut x e n
  · exact Heap.IsTuple.extBut x e n
theorem ItB.has (x : ItB b h it l k) : ∃ o, h.get? it = some o ∧ ∀ v, o.data ≠ .cell v := by
  cases b
  · obtain ⟨o, e, _, d⟩ := (show h.IsListIter it l k from x)
    exact ⟨o, e, fun v q => by rw [d] at q; cases q⟩
  · obtain ⟨o, e, _, d⟩ := (show h.IsTupleIter it l k from x)
    exact ⟨o, e, fun v q => by rw [d] at q; cases q⟩
end
section
variable {prog : Program} {w : World} {A : Around} {E : Value → Shared → Prop} {s : Shared}
theorem step {b : Bool} {it l : Addr} {k : Nat} {xs : Array Value} {x : Value} {Q : Value → Shared → Prop} (hit : ItB b s.heap it l k) (hl : SqB b s.heap l xs) (hx : xs[k]? = some x)
    (hQ : ∀ h', ItB b h' it l (k + 1) → Heap.SameBut it s.heap h' → Q x { s with heap := h' }) : wpAny (model prog w) A (Builtin.SmallTypes.nextOf (.ref it)) Q E s := by
  cases b
  · exact wpAny_nextOf_list_item hit hl hx hQ
  · exact RZ.nextOf_tuple_item hit hl hx hQ
theorem stop {b : Bool} {it l : Addr} {k : Nat} {xs : Array Value} {Q : Value → Shared → Prop} (hh : A.handled = none) (hit : ItB b s.heap it l k) (hl : SqB b s.heap l xs) (hx : xs[k]? = none)
    (hE : ∀ h' e, Heap.ExtBut it s.heap h' → (∃ o, h'.get? e = some o ∧ o.cls = .type "StopIteration") → E (.ref e) { s with heap := h' }) : wpAny (model prog w) A (Builtin.SmallTypes.nextOf (.ref it)) Q E s := by
  cases b
  · exact wpAny_nextOf_list_end hh hit hl hx hE
  · exact RZ.nextOf_tuple_end hh hit hl hx hE
/-- all but the four places of a zip stay -/
def Kept4 (z TO i1 i2 : Addr) (h h' : Heap) : Prop := ∀ c o, c ≠ z → c ≠ TO → c ≠ i1 → c ≠ i2 → h.get? c = some o → h'.get? c = some o
variable {p q : Bool} {z TI TO i1 i2 l1 l2 : Addr} {k1 k2 : Nat} {xs ys : Array Value} {x y u v : Value}
theorem next_item {Q : Value → Shared → Prop} (D : ZipApart z TI TO i1 i2 l1 l2) (hz : IsZip s.heap z TI TO .none) (hTI : IsPair s.heap TI (.ref i1) (.ref i2)) (hTO : IsPair s.heap TO u v)
    (h1 : ItB p s.heap i1 l1 k1) (h2 : ItB q s.heap i2 l2 k2) (hl1 : SqB p s.heap l1 xs) (hl2 : SqB q s.heap l2 ys) (hx : xs[k1]? = some x) (hy : ys[k2]? = some y)
    (hQ : ∀ h', IsZip h' z TI TO (rawInt s.heap.objs.size) → IsPair h' TO x y → ItB p h' i1 l1 (k1 + 1) → ItB q h' i2 l2 (k2 + 1) → IsPair h' s.heap.objs.size x y → Kept4 z TO i1 i2 s.heap h' → Q (.ref s.heap.objs.size) { s with heap := h' }) :
    wpAny (model prog w) A (Builtin.«zip.__next__» ⟨[.ref z], []⟩) (fun fin s' => ∃ v, fin = .done (.ret v) ∧ Q v s') E s := by
  show wpAny _ _ (field (.ref z) 2 >>= _) _ _ _
  refine wpAny_bind (wpAny_field hz rfl (x := .bool false) rfl ?_)
  show wpAny _ _ (field (.ref z) 3 >>= _) _ _ _
  refine wpAny_bind (wpAny_field hz rfl (x := .ref TI) rfl (wpAny_bind (wpAny_seqItems hTI rfl ?_)))
  show wpAny _ _ (Builtin.SmallTypes.ownedTupleIsFree (.ref z) >>= _) _ _ _
  refine wpAny_bind ?_
  unfold Builtin.SmallTypes.ownedTupleIsFree
  refine wpAny_bind (wpAny_field hz rfl (x := .none) rfl (wpAny_pure ?_))
  simp only [if_true]
  refine wpAny_bind (wpAny_rule (wpAny_bind (wpAny_field hz rfl (x := .ref TO) rfl (wpAny_bind (wpAny_setField_rec hz (by simp) fun g1 Z1 S1 => ?_)))))
  replace Z1 : IsZip g1 z TI TO .ellipsis := Z1
  have X1 := S1.extBut
  refine wpAny_bind ?_
  simp only [List.zipIdx_cons, List.zipIdx_nil, List.forIn_cons, List.forIn_nil]
  refine wpAny_bind (wpAny_bind (wpAny_onRaise ?_))
  show wpAny _ _ (Builtin.SmallTypes.nextOf (.ref i1) >>= _) _ _ _
  refine wpAny_bind (step (h1.ext X1 D.i1z) (hl1.ext X1 D.l1z) hx fun g2 A2 S2 => wpAny_pure ?_)
  have X2 := S2.extBut
  have P2 : IsPair g2 TO u v := X2 _ _ D.TOi1 (X1 _ _ D.TOz hTO)
  refine wpAny_bind (wpAny_seqItems P2 rfl (wpAny_bind (wpAny_updateSeq_pair P2 fun g3 P3 S3 => ?_)))
  replace P3 : IsPair g3 TO x v := P3
  have X3 := S3.extBut
  refine wpAny_bind (wpAny_letGo (wpAny_pure (wpAny_bind (wpAny_bind (wpAny_onRaise ?_)))))
  show wpAny _ _ (Builtin.SmallTypes.nextOf (.ref i2) >>= _) _ _ _
  refine wpAny_bind (step (((h2.ext X1 D.i2z).ext X2 D.i12.symm).ext X3 D.TOi2.symm) (((hl2.ext X1 D.l2z).ext X2 D.l2i1).ext X3 D.l2TO) hy fun g4 A4 S4 => wpAny_pure ?_)
  have X4 := S4.extBut
  have P4 : IsPair g4 TO x v := X4 _ _ D.TOi2 P3
  refine wpAny_bind (wpAny_seqItems P4 rfl (wpAny_bind (wpAny_updateSeq_pair P4 fun g5 P5 S5 => ?_)))
  replace P5 : IsPair g5 TO x y := P5
  have X5 := S5.extBut
  refine wpAny_bind (wpAny_letGo (wpAny_pure (wpAny_pure (wpAny_bind (wpAny_seqItems P5 rfl (wpAny_bind (wpAny_newTuple ?_)))))))
  have sz : g5.objs.size = s.heap.objs.size := S5.1.trans (S4.1.trans (S3.1.trans (S2.1.trans S1.1)))
  have Z5 : IsZip g5 z TI TO .ellipsis := X5 _ _ D.TOz.symm (X4 _ _ D.i2z.symm (X3 _ _ D.TOz.symm (X2 _ _ D.i1z.symm Z1)))
  have K5 : Kept4 z TO i1 i2 s.heap g5 := fun c o c1 c2 c3 c4 e => X5 _ _ c2 (X4 _ _ c4 (X3 _ _ c2 (X2 _ _ c3 (X1 _ _ c1 e))))
  have A5 : ItB p g5 i1 l1 (k1 + 1) := ((A2.ext X3 D.TOi1.symm).ext X4 D.i12).ext X5 D.TOi1.symm
  have B5 : ItB q g5 i2 l2 (k2 + 1) := A4.ext X5 D.TOi2.symm
  have zl : z < g5.objs.size := Heap.lt_size Z5
  show wpAny _ _ (Builtin.SmallTypes.ownedTupleHandOut (.ref z) (.ref g5.objs.size) >>= _) _ _ _
  refine wpAny_bind ?_
  unfold Builtin.SmallTypes.ownedTupleHandOut
  have Z6 : IsZip (g5.push { cls := .type "tuple", data := .seq #[x, y] }) z TI TO .ellipsis := Heap.get?_push_of_some _ Z5
  refine wpAny_bind (wpAny_setField_rec Z6 (by simp) fun g7 Z7 S7 => ?_)
  replace Z7 : IsZip g7 z TI TO (rawInt g5.objs.size) := Z7
  refine wpAny_setField_rec Z7 (by simp) fun g8 Z8 S8 => ?_
  replace Z8 : IsZip g8 z TI TO (rawInt g5.objs.size) := Z8
  have up : ∀ c o, c ≠ z → g5.get? c = some o → g8.get? c = some o := fun c o c1 e => S8.extBut _ _ c1 (S7.extBut _ _ c1 (Heap.get?_push_of_some _ e))
  have T8 : IsPair g8 g5.objs.size x y := S8.extBut _ _ (Nat.ne_of_gt zl) (S7.extBut _ _ (Nat.ne_of_gt zl) (Heap.get?_push_size _ rfl))
  rw [sz] at Z8 T8
  refine wpAny_pure ⟨_, rfl, ?_⟩
  show Q (.ref g5.objs.size) _
  rw [sz]
  exact hQ g8 Z8 (up _ _ D.TOz P5) (A5.move fun o e => up _ o D.i1z e) (B5.move fun o e => up _ o D.i2z e) T8 fun c o c1 c2 c3 c4 e => up c o c1 (K5 c o c1 c2 c3 c4 e)
theorem next_end {Q : Fin → Shared → Prop} (hh : A.handled = none) (D : ZipApart z TI TO i1 i2 l1 l2) (hz : IsZip s.heap z TI TO .none) (hTI : IsPair s.heap TI (.ref i1) (.ref i2)) (hTO : IsPair s.heap TO u v)
    (h1 : ItB p s.heap i1 l1 k1) (h2 : ItB q s.heap i2 l2 k2) (hl1 : SqB p s.heap l1 xs) (hl2 : SqB q s.heap l2 ys) (hend : xs[k1]? = none ∨ ys[k2]? = none)
    (hE : ∀ h' e, Kept4 z TO i1 i2 s.heap h' → (∃ o, h'.get? e = some o ∧ o.cls = .type "StopIteration") → E (.ref e) { s with heap := h' }) :
    wpAny (model prog w) A (Builtin.«zip.__next__» ⟨[.ref z], []⟩) Q E s := by
  show wpAny _ _ (field (.ref z) 2 >>= _) _ _ _
  refine wpAny_bind (wpAny_field hz rfl (x := .bool false) rfl ?_)
  show wpAny _ _ (field (.ref z) 3 >>= _) _ _ _
  refine wpAny_bind (wpAny_field hz rfl (x := .ref TI) rfl (wpAny_bind (wpAny_seqItems hTI rfl ?_)))
  show wpAny _ _ (Builtin.SmallTypes.ownedTupleIsFree (.ref z) >>= _) _ _ _
  refine wpAny_bind ?_
  unfold Builtin.SmallTypes.ownedTupleIsFree
  refine wpAny_bind (wpAny_field hz rfl (x := .none) rfl (wpAny_pure ?_))
  simp only [if_true]
  refine wpAny_bind (wpAny_rule (wpAny_bind (wpAny_field hz rfl (x := .ref TO) rfl (wpAny_bind (wpAny_setField_rec hz (by simp) fun g1 Z1 S1 => ?_)))))
  replace Z1 : IsZip g1 z TI TO .ellipsis := Z1
  have X1 := S1.extBut
  refine wpAny_bind ?_
  simp only [List.zipIdx_cons, List.zipIdx_nil, List.forIn_cons, List.forIn_nil]
  refine wpAny_bind (wpAny_bind (wpAny_onRaise ?_))
  show wpAny _ _ (Builtin.SmallTypes.nextOf (.ref i1) >>= _) _ _ _
  cases hx : xs[k1]? with
  | none =>
    refine wpAny_bind (stop hh (h1.ext X1 D.i1z) (hl1.ext X1 D.l1z) hx fun g2 e X2 he => ?_)
    obtain ⟨oe, hoe, hce⟩ := he
    have Z2 : IsZip g2 z TI TO .ellipsis := X2 _ _ D.i1z.symm Z1
    have ne : e ≠ z := fun w => by subst w; rw [Z2] at hoe; cases hoe; simp at hce
    exact wpAny_setField_rec Z2 (by simp) fun g3 _ S3 => hE g3 e (fun c o c1 _ c3 _ w => S3.extBut _ _ c1 (X2 _ _ c3 (X1 _ _ c1 w))) ⟨oe, S3.extBut _ _ ne hoe, hce⟩
  | some x =>
    have hy : ys[k2]? = none := hend.resolve_left fun w => by rw [hx] at w; cases w
    refine wpAny_bind (step (h1.ext X1 D.i1z) (hl1.ext X1 D.l1z) hx fun g2 A2 S2 => wpAny_pure ?_)
    have X2 := S2.extBut
    have P2 : IsPair g2 TO u v := X2 _ _ D.TOi1 (X1 _ _ D.TOz hTO)
    refine wpAny_bind (wpAny_seqItems P2 rfl (wpAny_bind (wpAny_updateSeq_pair P2 fun g3 P3 S3 => ?_)))
    have X3 := S3.extBut
    refine wpAny_bind (wpAny_letGo (wpAny_pure (wpAny_bind (wpAny_bind (wpAny_onRaise ?_)))))
    show wpAny _ _ (Builtin.SmallTypes.nextOf (.ref i2) >>= _) _ _ _
    refine wpAny_bind (stop hh (((h2.ext X1 D.i2z).ext X2 D.i12.symm).ext X3 D.TOi2.symm) (((hl2.ext X1 D.l2z).ext X2 D.l2i1).ext X3 D.l2TO) hy fun g4 e X4 he => ?_)
    obtain ⟨oe, hoe, hce⟩ := he
    have Z4 : IsZip g4 z TI TO .ellipsis := X4 _ _ D.i2z.symm (X3 _ _ D.TOz.symm (X2 _ _ D.i1z.symm Z1))
    have ne : e ≠ z := fun w => by subst w; rw [Z4] at hoe; cases hoe; simp at hce
    exact wpAny_setField_rec Z4 (by simp) fun g5 _ S5 => hE g5 e (fun c o c1 c2 c3 c4 w => S5.extBut _ _ c1 (X4 _ _ c4 (X3 _ _ c2 (X2 _ _ c3 (X1 _ _ c1 w))))) ⟨oe, S5.extBut _ _ ne hoe, hce⟩
theorem pyNext_item {Q : Option Value → Shared → Prop} (D : ZipApart z TI TO i1 i2 l1 l2) (hz : IsZip s.heap z TI TO .none) (hTI : IsPair s.heap TI (.ref i1) (.ref i2)) (hTO : IsPair s.heap TO u v)
    (h1 : ItB p s.heap i1 l1 k1) (h2 : ItB q s.heap i2 l2 k2) (hl1 : SqB p s.heap l1 xs) (hl2 : SqB q s.heap l2 ys) (hx : xs[k1]? = some x) (hy : ys[k2]? = some y)
    (hQ : ∀ h', IsZip h' z TI TO (rawInt s.heap.objs.size) → IsPair h' TO x y → ItB p h' i1 l1 (k1 + 1) → ItB q h' i2 l2 (k2 + 1) → IsPair h' s.heap.objs.size x y → Kept4 z TO i1 i2 s.heap h' → Q (some (.ref s.heap.objs.size)) { s with heap := h' }) :
    wpAny (model prog w) A (pyNext (.ref z)) Q E s := by
  have hT : s.TypeIs (.ref z) "zip" := ⟨_, hz, rfl⟩
  unfold pyNext
  exact wpAny_bind (wpAny_attempt (wpAny_callSpecial?_slot (name := Str.ofString "__next__") hT F.slot_zip_next
    (wpAny_call_entry F.slot_zip_next hT F.entry_zip_next (next_item D hz hTI hTO h1 h2 hl1 hl2 hx hy fun h' b1 b2 b3 b4 b5 b6 => wpAny_pure (hQ h' b1 b2 b3 b4 b5 b6)) (F.args_zip_next_1 _))))
theorem pyNext_end {Q : Option Value → Shared → Prop} (hh : A.handled = none) (D : ZipApart z TI TO i1 i2 l1 l2) (hz : IsZip s.heap z TI TO .none) (hTI : IsPair s.heap TI (.ref i1) (.ref i2)) (hTO : IsPair s.heap TO u v)
    (h1 : ItB p s.heap i1 l1 k1) (h2 : ItB q s.heap i2 l2 k2) (hl1 : SqB p s.heap l1 xs) (hl2 : SqB q s.heap l2 ys) (hend : xs[k1]? = none ∨ ys[k2]? = none)
    (hQ : ∀ h', Kept4 z TO i1 i2 s.heap h' → Q none { s with heap := h' }) : wpAny (model prog w) A (pyNext (.ref z)) Q E s := by
  have hT : s.TypeIs (.ref z) "zip" := ⟨_, hz, rfl⟩
  unfold pyNext
  refine wpAny_bind (wpAny_attempt (wpAny_callSpecial?_slot (name := Str.ofString "__next__") hT F.slot_zip_next
    (wpAny_call_entry F.slot_zip_next hT F.entry_zip_next (next_end hh D hz hTI hTO h1 h2 hl1 hl2 hend fun h' e hk he => ?_) (F.args_zip_next_1 _))))
  obtain ⟨o, ho, hc⟩ := he
  exact wpAny_bind (wpAny_isInstance (T := "StopIteration") (b := true) ⟨o, ho, hc⟩ isSubtype_stop (wpAny_pure (hQ _ hk)))
end
/-! ### zip(row, list) is made -/
abbrev hA (h : Heap) (l : Addr) : Heap := h.push { cls := .type "tuple_iterator", data := .fields #[.ref l, .int 0 0] }
abbrev hB (h : Heap) (l l' : Addr) : Heap := (hA h l).push { cls := .type "list_iterator", data := .fields #[.ref l', .int 0 0] }
abbrev hC (h : Heap) (l l' : Addr) : Heap := (hB h l l').push { cls := .type "tuple", data := .seq #[.ref h.objs.size, .ref (hA h l).objs.size] }
abbrev hD (h : Heap) (l l' : Addr) : Heap := (hC h l l').push { cls := .type "tuple", data := .seq #[.none, .none] }
abbrev hE (h : Heap) (l l' : Addr) : Heap := (hD h l l').push { cls := .type "zip", data := .fields #[.none, .bool false, .bool false, .ref (hB h l l').objs.size, .ref (hC h l l').objs.size] }
theorem meets_TL (l l' : Addr) (xs ys : Array Value) : Meets (Builtin.«zip.__new__» ⟨[.type "zip", .ref l, .ref l'], []⟩) (fun _ R s => s.heap.IsTuple l xs ∧ s.heap.IsList l' ys ∧ R (.ok (.ret (.ref (hD s.heap l l').objs.size))) { s with heap := hE s.heap l l' }) :=
  .of_wp fun prog w A R s h => by
    obtain ⟨hp, g, d, tk, os⟩ := s; obtain ⟨b1, b2, h⟩ := h
    have hsub := sub_zip
    have B1 : Heap.IsTuple (Shared.heap ⟨hp, g, d, tk, os⟩) l xs := b1
    have B2 : Heap.IsList (Shared.heap ⟨hA hp l, g, d, tk, os⟩) l' ys := Heap.IsList.push b2 _
    wp_walk using wpAny_pyIter_tuple B1, wpAny_pyIter_list B2
    exact ⟨_, rfl, h⟩
section
variable {prog : Program} {w : World} {A : Around} {E : Value → Shared → Prop} {s : Shared}
theorem call_TL {l l' : Addr} {xs ys : Array Value} {Q : Value → Shared → Prop} (b1 : s.heap.IsTuple l xs) (b2 : s.heap.IsList l' ys)
    (h : ∀ h', IsZip h' (s.heap.objs.size + 4) (s.heap.objs.size + 2) (s.heap.objs.size + 3) .none → IsPair h' (s.heap.objs.size + 2) (.ref s.heap.objs.size) (.ref (s.heap.objs.size + 1)) → IsPair h' (s.heap.objs.size + 3) .none .none →
      ItB true h' s.heap.objs.size l 0 → ItB false h' (s.heap.objs.size + 1) l' 0 → (∀ c o, s.heap.get? c = some o → h'.get? c = some o) → Q (.ref (s.heap.objs.size + 4)) { s with heap := h' }) :
    wpAny (model prog w) A (call (.type "zip") [.ref l, .ref l']) Q E s := by
  refine callType_new F.called_zip (by decide) (F.typeCall_zip_2 _ _) (F.newCall_zip_2 _ _) (fun obj => F.args_object_init_3 obj _ _) F.entry_zip_new (meets_TL l l' xs ys) ⟨b1, b2, ?_⟩
  have z1 : (hA s.heap l).objs.size = s.heap.objs.size + 1 := Heap.size_push ..
  have z2 : (hB s.heap l l').objs.size = s.heap.objs.size + 2 := by rw [Heap.size_push, z1]
  have z3 : (hC s.heap l l').objs.size = s.heap.objs.size + 3 := by rw [Heap.size_push, z2]
  have z4 : (hD s.heap l l').objs.size = s.heap.objs.size + 4 := by rw [Heap.size_push, z3]
  have up : ∀ {c o}, (hD s.heap l l').get? c = some o → (hE s.heap l l').get? c = some o := fun q => Heap.get?_push_of_some _ q
  have up3 : ∀ {c o}, (hC s.heap l l').get? c = some o → (hE s.heap l l').get? c = some o := fun q => up (Heap.get?_push_of_some _ q)
  have up2 : ∀ {c o}, (hB s.heap l l').get? c = some o → (hE s.heap l l').get? c = some o := fun q => up3 (Heap.get?_push_of_some _ q)
  have up1 : ∀ {c o}, (hA s.heap l).get? c = some o → (hE s.heap l l').get? c = some o := fun q => up2 (Heap.get?_push_of_some _ q)
  have g5 : (hE s.heap l l').get? (hD s.heap l l').objs.size = some _ := Heap.get?_push_size _ rfl
  have g4 : (hE s.heap l l').get? (hC s.heap l l').objs.size = some _ := up (Heap.get?_push_size _ rfl)
  have g3 : (hE s.heap l l').get? (hB s.heap l l').objs.size = some _ := up3 (Heap.get?_push_size _ rfl)
  have g2 : (hE s.heap l l').get? (hA s.heap l).objs.size = some _ := up2 (Heap.get?_push_size _ rfl)
  have g1 : (hE s.heap l l').get? s.heap.objs.size = some _ := up1 (Heap.get?_push_size _ rfl)
  show _ ∧ _
  rw [z2, z3, z4] at g5
  rw [z1, z2] at g3
  rw [z3] at g4
  rw [z1] at g2
  rw [z4]
  exact ⟨⟨_, g5, rfl⟩, h _ g5 g3 g4 ⟨_, g1, rfl, rfl⟩ ⟨_, g2, rfl, rfl⟩ fun c o x => up1 (Heap.get?_push_of_some _ x)⟩
end
/-- the row at a, the list at b -/
def ItTL (K : PySem.W.Frag) (a b : Addr) : It :=
  ⟨fun i H => ∃ (xs ys : List V) (x y : V), SqT K H a xs ∧ SqL K H b ys ∧ xs[i]? = some x ∧ ys[i]? = some y,
    fun i H v H' => ∃ T x y, v = .ref T ∧ H T = none ∧ H' = upd H T (.tup [x, y]) ∧ (∀ xs, SqT K H a xs → xs[i]? = some x) ∧ ∀ ys, SqL K H b ys → ys[i]? = some y,
    fun i H => ∃ xs ys : List V, SqT K H a xs ∧ SqL K H b ys ∧ (xs.length ≤ i ∨ ys.length ≤ i)⟩
theorem turnTL {P : Program} {w : World} {K : PySem.W.Frag} {elts : List Expr} {kk : Nat} {tpos : Pos} {a b z TI TO i1 i2 : Addr} (D : ZipApart z TI TO i1 i2 a b) :
    Turn P w K (.Tuple elts kk tpos) (ItTL K a b) [z, TI, TO, i1, i2] z (fun i h => IsZip h z TI TO .none ∧ IsPair h TI (.ref i1) (.ref i2) ∧ (∃ x y, IsPair h TO x y) ∧ ItB true h i1 a i ∧ ItB false h i2 b i) where
  mem := by simp
  obj := fun i h st c hc => by
    obtain ⟨hz, hTI, ⟨x, y, hTO⟩, h1, h2⟩ := st
    simp only [List.mem_cons, List.not_mem_nil, or_false] at hc
    rcases hc with rfl | rfl | rfl | rfl | rfl
    · exact ⟨_, hz, fun v q => nomatch q⟩
    · exact ⟨_, hTI, fun v q => nomatch q⟩
    · exact ⟨_, hTO, fun v q => nomatch q⟩
    · exact h1.has
    · exact h2.has
  keep := fun i h h' st k => by
    obtain ⟨hz, hTI, ⟨x, y, hTO⟩, h1, h2⟩ := st
    exact ⟨k z (by simp) _ hz, k TI (by simp) _ hTI, ⟨x, y, k TO (by simp) _ hTO⟩, h1.move fun o q => k i1 (by simp) o q, h2.move fun o q => k i2 (by simp) o q⟩
  item := by
    intro X hP hw hK hc i pins s σ H E I hf st hg
    subst hP hw hK
    obtain ⟨hz, hTI, ⟨x0, y0, hTO⟩, h1, h2⟩ := st
    obtain ⟨xs, ys, x, y, hqx, hqy, hx, hy⟩ := hg
    obtain ⟨its, rv, p, _⟩ := I.tuple hqx
    obtain ⟨its2, rv2, p2, _⟩ := I.list hqy
    obtain ⟨u, hu, ru⟩ := rv.get hx
    obtain ⟨u2, hu2, ru2⟩ := rv2.get hy
    have hzl : z < s.heap.objs.size := Heap.lt_size hz
    have low : ∀ c ∈ [z, TI, TO, i1, i2], c < s.heap.objs.size := fun c hcm => by
      simp only [List.mem_cons, List.not_mem_nil, or_false] at hcm
      rcases hcm with rfl | rfl | rfl | rfl | rfl
      · exact hzl
      · exact Heap.lt_size hTI
      · exact Heap.lt_size hTO
      · obtain ⟨_, e, _⟩ := h1.has; exact Heap.lt_size e
      · obtain ⟨_, e, _⟩ := h2.has; exact Heap.lt_size e
    refine pyNext_item D hz hTI hTO h1 h2 (show SqB true _ _ _ from p) (show SqB false _ _ _ from p2.isList) (x := u) (y := u2) (by simpa using hu) (by simpa using hu2) fun h' z' TO' h1' h2' hT hk => ?_
    refine ⟨_, rfl, wpAny_letOwnedTupleGo_zip (s := { s with heap := h' }) z' fun h'' z'' sb => ?_⟩
    have T2 : h''.get? s.heap.objs.size = some { cls := .type "tuple", data := .seq #[u, u2] } := (sb.2 _ (Nat.ne_of_gt hzl)).trans hT
    have new : ObjOk X.prog X.w (upd H s.heap.objs.size (.tup [x, y])) h'' s.heap.objs.size (.tup [x, y]) := ⟨by show 2 ≤ sizeLine; decide, [u, u2], .cons ru (.cons ru2 .nil), ⟨_, T2, rfl, _, rfl⟩⟩
    have far : ∀ c o, c ∉ [z, TI, TO, i1, i2] → s.heap.get? c = some o → h''.get? c = some o := fun c o n q => by
      simp only [List.mem_cons, List.not_mem_nil, or_false, not_or] at n
      exact (sb.2 c n.1).trans (hk c o n.1 n.2.2.1 n.2.2.2.1 n.2.2.2.2 q)
    have I1 : Inv X pins σ (upd H s.heap.objs.size (.tup [x, y])) { s with heap := h'' } := I.turnedNew (t' := s.toks) (ch := [z, TI, TO, i1, i2]) far hf (Nat.le_refl _) new
    refine ⟨.ref s.heap.objs.size, _, I1, rfl, ⟨_, x, y, rfl, I.hok.fresh (Nat.le_refl _), rfl, fun l hl => by rw [I.tuple_inj hl hqx]; exact hx, fun l hl => by rw [I.list_inj hl hqy]; exact hy⟩, ⟨z'', ?_, ⟨u, u2, ?_⟩, ?_, ?_⟩, fun c hcm => ?_⟩
    · exact (sb.2 _ D.TIz).trans (hk _ _ D.TIz D.TITO D.TIi1 D.TIi2 hTI)
    · exact (sb.2 _ D.TOz).trans TO'
    · exact h1'.move fun o q => (sb.2 _ D.i1z).trans q
    · exact h2'.move fun o q => (sb.2 _ D.i2z).trans q
    · rw [upd_ne (Nat.ne_of_lt (low c hcm))]
      exact (hf c hcm).1
  done := by
    intro X hP hw hK hc i pins s σ H E I hf st hg
    subst hP hw hK
    obtain ⟨hz, hTI, ⟨x0, y0, hTO⟩, h1, h2⟩ := st
    obtain ⟨xs, ys, hqx, hqy, hend⟩ := hg
    obtain ⟨its, rv, p, _⟩ := I.tuple hqx
    obtain ⟨its2, rv2, p2, _⟩ := I.list hqy
    have l1 := rv.length
    have l2 := rv2.length
    have he : its.toArray[i]? = none ∨ its2.toArray[i]? = none := hend.imp (fun q => by simp; omega) fun q => by simp; omega
    refine pyNext_end (I.ok.hd hc) D hz hTI hTO h1 h2 (show SqB true _ _ _ from p) (show SqB false _ _ _ from p2.isList) he fun h' hk => ⟨rfl, I.turnedL (t' := s.toks) (ch := [z, TI, TO, i1, i2]) (fun c o n q => ?_) hf⟩
    simp only [List.mem_cons, List.not_mem_nil, or_false, not_or] at n
    exact hk c o n.1 n.2.2.1 n.2.2.2.1 n.2.2.2.2 q
  self := fun A i s Q E st h => wpAny_pyIter_zip st.1 h
def iTL (K : PySem.W.Frag) (ta : TA) : TI := fun σ H R => ta σ H fun vs H1 => ∃ a b xs ys, vs = [.ref a, .ref b] ∧ SqT K H1 a xs ∧ SqL K H1 b ys ∧ R (ItTL K a b) H1
theorem pi_TL {X : Cx} {e e2 : Expr} {ta : TA} {p pos tpos : Pos} {elts : List Expr} {kk : Nat} (hg : Gl X "zip") (hm : X.mg "zip" = none) (ha : PA X [e, e2] ta)
    (hs : starEach [e, e2] X.env = (false, eval e X.env) :: starEach [e2] X.env := by rfl) (hpl : (backTo pos (starEach [e2] X.env)).any (·.1) = false := by rfl) : PI X (.Tuple elts kk tpos) (.Call (.Name "zip" p) [e, e2] [] pos) (iTL X.K ta) := by
  refine ⟨fun pins s σ H R I h => ?_⟩
  refine Call_ (ld_blt I hg hm PyProof.Rows.boot_zip (PyProof.Rows.callWith_type1 (thn (ha.run pos pins s σ H _ I h) fun us s1 ⟨vs, H1, I1, r1, q1⟩ => ?_) hs hpl))
  obtain ⟨a, b, xs, ys, ex, hqx, hqy, q⟩ := q1
  subst ex
  cases r1 with
  | cons r rr =>
    cases rr with
    | cons r' rr =>
      cases rr
      cases r
      cases r'
      have fresh5 : ∀ c, c ∈ [s1.heap.objs.size + 4, s1.heap.objs.size + 2, s1.heap.objs.size + 3, s1.heap.objs.size, s1.heap.objs.size + 1] → FpOk X pins H1 c := fun c hcm => by
        have hle : s1.heap.objs.size ≤ c := by
          simp only [List.mem_cons, List.not_mem_nil, or_false] at hcm
          generalize s1.heap.objs.size = n at hcm ⊢
          have : ∀ {x y : Nat}, c = x → y ≤ x → y ≤ c := fun h h' => h ▸ h'
          rcases hcm with z | z | z | z | z
          · exact this z (Nat.le_add_right _ _)
          · exact this z (Nat.le_add_right _ _)
          · exact this z (Nat.le_add_right _ _)
          · exact this z (Nat.le_refl _)
          · exact this z (Nat.le_add_right _ _)
        exact I1.fpOk hle (I1.hok.fresh hle)
      obtain ⟨its, rv, p1, _⟩ := I1.tuple hqx
      obtain ⟨its2, rv2, p2, _⟩ := I1.list hqy
      obtain ⟨o1, ho1, _⟩ := id p1
      refine call_TL (show s1.heap.IsTuple a its.toArray from p1) p2.isList fun h' hz hTI hTO h1 h2 hk => wpAny_pyIter_zip hz ?_
      have I2 : Inv X pins σ H1 { s1 with heap := h' } := I1.kept (t' := s1.toks) hk
      exact ⟨s1.heap.objs.size + 4, [s1.heap.objs.size + 4, s1.heap.objs.size + 2, s1.heap.objs.size + 3, s1.heap.objs.size, s1.heap.objs.size + 1], _, _, H1, rfl, I2, turnTL (PySem.W.ktu_apart s1.heap.objs.size a b (Heap.lt_size ho1) p2.lt), ⟨hz, hTI, ⟨_, _, hTO⟩, h1, h2⟩, fresh5, q⟩
end ZM
namespace DL
open PySem PySem.Spec PyProof.Rows L2
section
variable {T : DKd} {X : Cx} {K : PySem.W.Frag} {dk : DkA} {HS H : Hp} {tg e e2 : Expr} {ta tb : DT D} {pos p tpos : Pos} {elts : List Expr} {kk : Nat}
theorem it_zipM {a b : Addr} {vs us : List V} {ds es : List D} (h : SqT K HS a vs) (q : Rvs K HS vs ds) (h' : HS b = some (.lst us)) (q' : Rvs K HS us es) : ItOk T K (ZM.ItTL K a b) HS (zipD ds es) := fun dk HS' H' sm w => by
  have h1 : SqT K H' a vs := same_seqT w.sub (same_seqT sm h)
  have h2 : SqL K H' b us := SqL.of (w.sub _ _ (sm _ _ h'))
  refine ⟨fun i d e => ?_, vs, us, h1, h2, ?_⟩
  · obtain ⟨x, y, ex, ey, rfl⟩ := zipD_get e
    obtain ⟨v, hv, r⟩ := q.getD ex
    obtain ⟨u, hu, r'⟩ := q'.getD ey
    refine ⟨⟨vs, us, v, u, h1, h2, hv, hu⟩, fun z H'' y => ?_⟩
    obtain ⟨t, v', u', rfl, hn, rfl, k1, k2⟩ := y
    have e1 := k1 vs h1
    rw [hv] at e1
    cases e1
    have e2 := k2 us h2
    rw [hu] at e2
    cases e2
    obtain ⟨s, rr⟩ := new_tup w hn (.cons (dp_same sm _ _ r) (.cons (dp_same sm _ _ r') .nil))
    exact ⟨_, s, rr⟩
  · rw [zipD_len, ← q.len, ← q'.len]; omega
/-- zip(row, list) -/
def xZipM (ta tb : DT D) : DT (List D) := fun ρ P => ta ρ fun d => tb ρ fun d2 => ∃ ds es, d = .tuple ds ∧ d2 = .list es ∧ P (zipD ds es)
theorem dit_zipM (hg : Gl X "zip") (hm : X.mg "zip" = none) (he : DE T X e ta) (he2 : DE T X e2 tb)
    (hs : starEach [e, e2] X.env = (false, eval e X.env) :: starEach [e2] X.env := by rfl) (hpl : (backTo pos (starEach [e2] X.env)).any (·.1) = false := by rfl)
    (hs4 : starEach [e2] X.env = (false, eval e2 X.env) :: starEach [] X.env := by rfl) : DIt T X (.Tuple elts kk tpos) (.Call (.Name "zip" p) [e, e2] [] pos) (xZipM ta tb) :=
  ⟨PI.imp (ZM.pi_TL hg hm (pa_cons he.pe (pa_cons he2.pe pa_nil hs4) hs) hs hpl) fun σ H R h => by
    obtain ⟨en, ρ, dk, HS, P, E, q, k⟩ := h
    refine ⟨en, ρ, dk, HS, _, E, q, fun d v HS1 H1 p s r => ⟨en, ρ, dk, HS1, _, E.stp s, p, fun d2 v2 HS2 H2 p2 s2 r2 => ?_⟩⟩
    obtain ⟨ds, es, rfl, rfl, p2⟩ := p2
    cases r with
    | tup h q =>
      cases r2 with
      | lst h2 q2 =>
        have h' := s2.sh _ _ h
        exact ⟨_, _, _, _, rfl, SqT.of (s2.wd.sub _ _ h'), SqL.of (s2.wd.sub _ _ h2), k _ _ HS2 H2 p2 (s.trans s2) (it_zipM (SqT.of h') (dps_same s2.sh _ _ q) h2 q2)⟩⟩
end
end DL

namespace DL
open PySem PySem.Spec PyProof.Rows L2
/-! ### what the pure proofs of many laws use -/
theorem cut_lo {l : List D} {k : Nat} (hk : k ≤ l.length) : DL.cutD l (some (k : Int)) none = l.drop k := by
  unfold DL.cutD
  have e1 : HT.sIx l.length l.length none = l.length := rfl
  rw [e1, HT.sIx_nat, Nat.min_eq_left hk, List.take_of_length_le (by rw [List.length_drop]; omega)]
theorem cut_hi {l : List D} {k : Nat} (hk : k ≤ l.length) : DL.cutD l none (some (k : Int)) = l.take k := by
  unfold DL.cutD
  have e1 : HT.sIx l.length 0 none = 0 := rfl
  rw [e1, HT.sIx_nat, Nat.min_eq_left hk, List.drop_zero, Nat.sub_zero]
theorem zipD_map {α : Type} (l : List α) (g h : α → D) : zipD (l.map g) (l.map h) = l.map fun k => .tuple [g k, h k] := by
  unfold zipD
  rw [List.zip_map', List.map_map]
  rfl
theorem get_nat {l : List Nat} {i : Nat} {d : D} (e : (l.map fun (k : Nat) => PyData.int (k : Int))[i]? = some d) : ∃ x, l[i]? = some x ∧ d = .int (x : Int) := by
  rw [List.getElem?_map] at e
  obtain ⟨x, h1, h2⟩ := Option.map_eq_some_iff.mp e
  exact ⟨x, h1, h2.symm⟩
theorem nat_get {l : List Nat} {i x : Nat} (h : l[i]? = some x) : (l.map fun (k : Nat) => PyData.int (k : Int))[i]? = some (.int (x : Int)) := by
  rw [List.getElem?_map, h]; rfl
theorem okD_intsL (ns : List Int) : okD (.list (ns.map .int)) = true := ints_ok ns
theorem nat_mod (p q : Nat) : ((p : Int) + 1) % (q : Int) = (((p + 1) % q : Nat) : Int) := by
  rw [Int.natCast_emod]; rfl
end DL
namespace DL
open PySem PySem.Spec PyProof.Rows L2
theorem rep_one {α : Type} (x : α) : ∀ n : Nat, (List.replicate n [x]).flatten = List.replicate n x
  | 0 => rfl
  | n + 1 => by
    rw [List.replicate_succ, List.flatten_cons, rep_one x n, List.replicate_succ]; rfl
theorem oMul_tup1 {x : D} {n : Nat} (h : 1 ≤ n) (h2 : n ≤ 1000) : oMul (.tuple [x]) (.int (n : Int)) = some (.tuple (List.replicate n x)) := by
  have e : oMul (.tuple [x]) (.int (n : Int)) = if [x] ≠ [] ∧ 2 ≤ (n : Int) ∧ (n : Int) ≤ 1000 ∧ [x].length ≤ 1000 then some (PyData.tuple (List.replicate (n : Int).toNat [x]).flatten) else if (n : Int) = 1 then some (.tuple [x]) else none := rfl
  rw [e]
  by_cases c : 2 ≤ n
  · rw [if_pos ⟨by simp, by omega, by omega, by simp⟩, Int.toNat_natCast, rep_one]
  · have : n = 1 := by omega
    subst this
    rfl
theorem oMul_lst1 {x : D} {n : Nat} (h2 : n ≤ 1000) : oMul (.list [x]) (.int (n : Int)) = some (.list (List.replicate n x)) := by
  have e : oMul (.list [x]) (.int (n : Int)) = if -(2 ^ 63) ≤ (n : Int) ∧ (n : Int) < 2 ^ 63 ∧ [x].length * (n : Int).toNat ≤ sizeLine then some (PyData.list (List.replicate (n : Int).toNat [x]).flatten) else none := rfl
  rw [e, if_pos ⟨by omega, by omega, by rw [Int.toNat_natCast, List.length_singleton, Nat.one_mul]; exact le_line (by omega)⟩, Int.toNat_natCast, rep_one]
/-- [e for x in ds], what is told of the list so far -/
theorem comp_to {g : DTg} {te : DT D} {P : List D → Prop} {ρ : Envd} {ds : List D} (I : Nat → List D → Prop) (h0 : I 0 [])
    (hs : ∀ (i : Nat) (d : D) (acc : List D) (K : List D → Prop), ds[i]? = some d → I i acc → (∀ acc', I (i + 1) acc' → K acc') → g d ρ fun ρ1 => te ρ1 fun y => acc.length < sizeLine ∧ K (acc ++ [y]))
    (hd : ∀ acc, I ds.length acc → P acc) : compL g xYes te P ρ ds [] :=
  compL_inv I ds 0 [] h0 (fun i d acc K e h1 h2 => by
    rw [Nat.zero_add] at h1 h2
    exact hs i d acc K e h1 h2) fun acc h => by
    rw [Nat.zero_add] at h
    exact hd acc h
/-- while, with the end shown once -/
theorem while_x {c : DT Bool} {b : DTS} {P : EndsD} (I : Nat → Envd → Prop) (X : Envd → Prop) {n : Nat} {ρ : Envd} (h : I n ρ) (hx : ∀ ρ, X ρ → P.nx ρ)
    (hs : (∀ ρ, X ρ → P.nx ρ) → ∀ (k : Nat) (ρ : Envd) (K : Envd → Prop), I (k + 1) ρ → (∀ ρ', I k ρ' → K ρ') → c ρ fun t => if t = true then b { P with nx := K, ct := K, bk := P.nx } ρ else P.nx ρ)
    (h0 : (∀ ρ, X ρ → P.nx ρ) → ∀ (ρ : Envd) (K : Envd → Prop), I 0 ρ → c ρ fun t => if t = true then b { P with nx := K, ct := K, bk := P.nx } ρ else P.nx ρ) : yWhile c b P ρ := while_to I h (hs hx) (h0 hx)
/-- behind a branch both ways meet -/
theorem if_join {c : DT Bool} {t u : DTS} {P : EndsD} {ρ : Envd} (X : Envd → Prop) (hx : ∀ ρ, X ρ → P.nx ρ) (h : (∀ ρ, X ρ → P.nx ρ) → yIf c t u P ρ) : yIf c t u P ρ := h hx
/-- a value, however it came -/
theorem d_join {t : DT D} {P : D → Prop} {ρ : Envd} (X : D → Prop) (hx : ∀ d, X d → P d) (h : (∀ d, X d → P d) → t ρ P) : t ρ P := h hx
end DL

namespace DL
open PySem PySem.Spec PyProof.Rows L2
/-! ### isinstance(x, T) -/
inductive Tn where
  | int | bool | tuple | list | str
def Tn.nm : Tn → String
  | .int => "int"
  | .bool => "bool"
  | .tuple => "tuple"
  | .list => "list"
  | .str => "str"
def isTy : Tn → D → Bool
  | .int, .int _ => true
  | .int, .bool _ => true
  | .bool, .bool _ => true
  | .tuple, .tuple _ => true
  | .list, .list _ => true
  | .str, .str _ => true
  | _, _ => false
def xIsI (n : Tn) (ta : DT D) : DT D := fun ρ P => ta ρ fun d => P (.bool (isTy n d))
section
variable {T : DKd} {X : Cx} {e : Expr} {ta : DT D} {pos p p2 : Pos}
theorem isi_of {K : PySem.W.Frag} {H : Hp} {v : V} {d : D} (r : Rv K H v d) (n : Tn) : ∃ t, TyX K H v t ∧ PySem.W.kitOne K t (.type n.nm) = some (isTy n d) := by
  cases r with
  | non => exact ⟨_, .base .non, kit_ty (by cases n <;> decide +kernel)⟩
  | bl b => exact ⟨_, .base (.bl b), kit_ty (by rw [show isTy n (.bool b) = isTy n (.bool true) by cases n <;> rfl]; cases n <;> decide +kernel)⟩
  | int i => exact ⟨_, .base (.int i), kit_ty (by rw [show isTy n (.int i) = isTy n (.int 0) by cases n <;> rfl]; cases n <;> decide +kernel)⟩
  | str x => exact ⟨_, .base (.str x), kit_ty (by rw [show isTy n (.str x) = isTy n (.str "") by cases n <;> rfl]; cases n <;> decide +kernel)⟩
  | lst h q => exact ⟨_, .base (.lst h), kit_ty (by rw [show ∀ ds, isTy n (.list ds) = isTy n (.list []) from fun _ => by cases n <;> rfl]; cases n <;> decide +kernel)⟩
  | dic h q => exact ⟨_, .base (.dK h), kit_ty (by rw [show ∀ ds, isTy n (.dict ds) = isTy n (.dict []) from fun _ => by cases n <;> rfl]; cases n <;> decide +kernel)⟩
  | tup h q =>
    refine ⟨.type "tuple", ?_, kit_ty (by rw [show ∀ ds, isTy n (.tuple ds) = isTy n (.tuple []) from fun _ => by cases n <;> rfl]; cases n <;> decide +kernel)⟩
    exact .base (.tup h)
theorem boot_ty (n : Tn) : bootBuiltins (Str.ofString n.nm) = some (.type n.nm) := by cases n <;> decide +kernel
theorem d_isi (n : Tn) {x : Str} (hg : Gl X "isinstance") (hm : X.mg "isinstance" = none) (hg2 : Gl X x) (hm2 : X.mg x = none) (ha : DR T X e ta) (hx : bootBuiltins x = some (.type n.nm) := by decide +kernel) (hn : x ≠ "__name__" := by decide) (hd : (x == ("__debug__" : Str)) = false := by decide)
    (h1 : starEach [e, .Name x p2] X.env = (false, eval e X.env) :: starEach [.Name x p2] X.env := by rfl) (h2 : starEach [.Name x p2] X.env = (false, eval (.Name x p2) X.env) :: starEach [] X.env := by rfl)
    (hpl : (backTo pos (starEach [.Name x p2] X.env)).any (·.1) = false := by rfl) :
    DE T X (.Call (.Name "isinstance" p) [e, .Name x p2] [] pos) (xIsI n ta) :=
  ⟨PE.imp (pe_callB call_isi hg hm (by decide +kernel) (pa_cons ha.pe (pa_cons (pe_bltn (v := .ty n.nm) hg2 hm2 hx rfl hn hd) pa_nil h2) h1) (he := h1) (hpl := hpl)) fun σ H Q h => by
    obtain ⟨en, ρ, dk, HS, P, E, q, k⟩ := h
    refine ⟨en, ρ, dk, HS, _, E, q, fun d v HS1 H1 pd s r => ?_⟩
    have rv := r.rv s.wd
    obtain ⟨t, ty, e1⟩ := isi_of rv n
    exact ⟨v, .ty n.nm, t, _, _, rfl, .ty _, ty, e1, k _ _ HS1 H1 pd s (.bl _)⟩⟩
end
/-! ### xs.count(i), ints -/
def xCount (ta tb : DT D) : DT D := fun ρ P => ta ρ fun l => ∃ ns : List Int, l = .list (ns.map .int) ∧ tb ρ fun y => ∃ k, y = .int k ∧ P (.int (ns.count k : Nat))
theorem d_count {T : DKd} {X : Cx} {o e : Expr} {ta tb : DT D} {apos cpos : Pos} (ho : DR T X o ta) (he : DE T X e tb)
    (hbase : attributeBase o "count" X.env (eval o X.env) = eval o X.env := by rfl)
    (hfew : ((backTo cpos (starEach [e] X.env)).all (fun x => !x.1) && (backToKw cpos (keywordEach [] X.env)).all (fun x => x.1.isSome) && decide ([e].length + ([] : List Keyword).length + (if ([] : List Keyword).isEmpty then 0 else 1) < 30)) = true := by rfl)
    (hline : (apos.endLine == cpos.line) = true := by rfl) (hs : starEach [e] X.env = (false, eval e X.env) :: starEach [] X.env := by rfl) (hpl : (backTo cpos (starEach [] X.env)).any (·.1) = false := by rfl) :
    DE T X (.Call (.Attribute o "count" apos) [e] [] cpos) (xCount ta tb) := ⟨⟨fun pins s σ H Q I h => by
  obtain ⟨en, ρ, dk, HS, P, E, q, k⟩ := h
  refine wpAny_Call_method_late hbase hfew hline rfl (thn (ho.pe.run pins s σ H (fun v H1 => ∃ (ns : List Int) (HS1 : Hp), tb ρ (fun y => ∃ k, y = .int k ∧ P (.int (ns.count k : Nat))) ∧ Stp T dk HS H HS1 H1 ∧ RpR X.K dk HS1 H1 v (.list (ns.map .int))) I ⟨en, ρ, dk, HS, _, E, q, fun d v HS1 H1 p s r => by
    obtain ⟨ds, rfl, p⟩ := p
    exact ⟨ds, HS1, p, s, r⟩⟩) fun v s1 ⟨x, H1, I1, r1, ns, HS1, p, st, rd⟩ => ?_)
  have hA := (pa_cons he.pe pa_nil hs).run cpos pins s1 σ H1 (fun vs H2 => ∃ y HS2 v2, vs = [v2] ∧ (∃ k, y = .int k ∧ P (.int (ns.count k : Nat))) ∧ Stp T dk HS1 H1 HS2 H2 ∧ Rv X.K HS2 v2 y) I1 ⟨en, ρ, dk, HS1, _, E.stp st, p, fun y v2 HS2 H2 p2 s2 r2 => ⟨y, HS2, v2, rfl, p2, s2, r2⟩⟩
  rw [hs] at hA ⊢
  have hb : (backTo cpos ((false, eval e X.env) :: starEach [] X.env)).any (·.1) = false := by
    show (false || (backTo cpos (starEach [] X.env)).any (·.1)) = false
    rw [hpl]; rfl
  obtain ⟨a, vs, rfl, hx, _⟩ := rd.lst st.wd
  obtain ⟨t1, t2⟩ := tyV_is I1 r1 (show tyV X.K "list" (.ref a) H1 from .inl ⟨rfl, _, SqL.of hx⟩)
  refine ⟨"list", "list.count", PySem.F.plainAttrs_list, PySem.F.slot_list_count, PySem.F.type_list_count, t1, t2, Calls.callWith_builtin hb (Calls.evalArgs_plain (thn hA fun us s2 ⟨vs2, H2, I2, r2, y, HS2, v2, e2, ⟨z, hz, hP⟩, s2', ry⟩ => ?_))⟩
  subst e2 hz
  cases ry
  obtain ⟨a2, vs2, e3, hx2, q2⟩ := (rd.step s2').lst s2'.wd
  cases e3
  have ev := q2.intsV
  subst ev
  exact mt_lcount pins s2 σ H2 _ _ v us Q I2 r1 r2 ⟨a, ns, z, rfl, rfl, SqL.of hx2, k _ _ _ _ hP (st.trans s2') (.int _)⟩⟩⟩
/-! ### xs[i], ys[j] = a, b -/
def yPut2 (i j : Nat) (tv t1 t2 : DT D) : DTS := fun P ρ => tv ρ fun d => ∃ a b, d = .tuple [a, b] ∧ ∃ ds, sl ρ i = .own ds ∧ t1 ρ fun n => ∃ k m, n = .int k ∧ ixN ds.length k = some m ∧
  ∃ es, sl (ρ.set i (.own (ds.set m a))) j = .own es ∧ t2 (ρ.set i (.own (ds.set m a))) fun n2 => ∃ k2 m2, n2 = .int k2 ∧ ixN es.length k2 = some m2 ∧ P.nx ((ρ.set i (.own (ds.set m a))).set j (.own (es.set m2 b)))
theorem ds_put2 (i j : Nat) {T : DKd} {X : Cx} {e ix1 ix2 : Expr} {tv t1 t2 : DT D} {x1 x2 : Str} {p1 p2 p3 p4 pt pos : Pos} {kt : Nat} (hv : DE T X e tv) (ho1 : PE X (.Name x1 p1) (tVar i)) (hi1 : DE T X ix1 t1) (ho2 : PE X (.Name x2 p3) (tVar j)) (hi2 : DE T X ix2 t2) (hc : X.calm = true := by rfl)
    (ha1 : ∀ v, assign (.Subscript (.Name x1 p1) ix1 p2) X.env v = (do
      let ov ← holding [v] (eval (.Name x1 p1) X.env)
      let iv ← holding [v, ov] (eval ix1 X.env)
      standAt p2
      holding [v, ov, iv] (setItem ov iv v)
      release [v, ov, iv] []) := by intro _; rfl)
    (ha2 : ∀ v, assign (.Subscript (.Name x2 p3) ix2 p4) X.env v = (do
      let ov ← holding [v] (eval (.Name x2 p3) X.env)
      let iv ← holding [v, ov] (eval ix2 X.env)
      standAt p4
      holding [v, ov, iv] (setItem ov iv v)
      release [v, ov, iv] []) := by intro _; rfl)
    (hs1 : (assignEach [.Subscript (.Name x1 p1) ix1 p2, .Subscript (.Name x2 p3) ix2 p4] X.env).map (·.2) = assign (.Subscript (.Name x1 p1) ix1 p2) X.env :: (assignEach [.Subscript (.Name x2 p3) ix2 p4] X.env).map (·.2) := by rfl)
    (hs2 : (assignEach [.Subscript (.Name x2 p3) ix2 p4] X.env).map (·.2) = assign (.Subscript (.Name x2 p3) ix2 p4) X.env :: (assignEach [] X.env).map (·.2) := by rfl)
    (hn : (assignEach [.Subscript (.Name x1 p1) ix1 p2, .Subscript (.Name x2 p3) ix2 p4] X.env).length = 2 := by rfl) (hst : (assignEach [.Subscript (.Name x1 p1) ix1 p2, .Subscript (.Name x2 p3) ix2 p4] X.env).findIdx? (·.1) = none := by rfl)
    (hs : swapsWithSole [.Tuple [.Subscript (.Name x1 p1) ix1 p2, .Subscript (.Name x2 p3) ix2 p4] kt pt] e pos.line X.env = pure false := by rfl) (hw : swappedStores [.Tuple [.Subscript (.Name x1 p1) ix1 p2, .Subscript (.Name x2 p3) ix2 p4] kt pt] e X.env = pure none := by rfl)
    (h1 : (assignEach [.Tuple [.Subscript (.Name x1 p1) ix1 p2, .Subscript (.Name x2 p3) ix2 p4] kt pt] X.env).map (·.2) = [assign (.Tuple [.Subscript (.Name x1 p1) ix1 p2, .Subscript (.Name x2 p3) ix2 p4] kt pt) X.env] := by rfl) :
    DS T X (.Assign [.Tuple [.Subscript (.Name x1 p1) ix1 p2, .Subscript (.Name x2 p3) ix2 p4] kt pt] e pos) (yPut2 i j tv t1 t2) :=
  ⟨PS.imp (ps_asg hv.pe (pg_tup hc (pgs_cons (pg_sub ho1 hi1.pe set_list ha1) (pgs_cons (pg_sub ho2 hi2.pe set_list ha2) pgs_nil hs2) hs1) hn hst) hs hw h1) fun De σ H ⟨en, ρ, dk, HS, P, x⟩ => by
    refine ⟨en, ρ, dk, HS, _, x.env, x.does, fun d v HS1 H1 pd s r => ?_⟩
    obtain ⟨a, b, rfl, ds, hd, q⟩ := pd
    have E1 := x.env.stp s
    cases r with
    | tup ht r =>
    cases r with
    | cons ra r =>
    cases r with
    | cons rb r =>
    cases r
    refine ⟨_, _, rfl, SqT.of (E1.wd.sub _ _ ht), rfl, _, _, rfl, ?_⟩
    obtain ⟨p, vs, h0, h1, m, n, h2, qv, f⟩ := E1.ownAt hd
    refine ⟨_, h1, en, ρ, dk, HS1, _, E1, q, fun d2 v2 HS2 H2 pd2 s2 r2 => ?_⟩
    have E2 := E1.stp s2
    obtain ⟨p', vs', h0', h1', m', n', h2', qv', f'⟩ := E2.ownAt hd
    rw [h1] at h1'
    cases h1'
    obtain ⟨k, mm, rfl, hix, es, he, q2⟩ := pd2
    cases r2
    refine ⟨p, vs', k, mm, rfl, rfl, h2', by rw [qv'.len]; exact hix, ?_⟩
    have E3 := E2.mut h0' h1 m' n' f' (qv'.setA (dp_same s2.sh _ _ ra) mm)
    obtain ⟨p5, vs5, g0, g1, gm, gn, g2, gv, gf⟩ := E3.ownAt he
    refine ⟨_, _, rfl, _, g1, en, _, dk, HS2, _, E3, q2, fun d6 v6 HS6 H6 pd6 s6 r6 => ?_⟩
    have E6 := E3.stp s6
    obtain ⟨p7, vs7, k0, k1, km, kn, k2, kv, kf⟩ := E6.ownAt he
    rw [g1] at k1
    cases k1
    obtain ⟨kk, m2, rfl, hix2, pn⟩ := pd6
    cases r6
    refine ⟨p5, vs7, kk, m2, rfl, rfl, k2, by rw [kv.len]; exact hix2, rfl, ?_⟩
    exact x.nx _ dk HS6 _ _ pn (E6.mut k0 g1 km kn kf (kv.setA (dp_same s6.sh _ _ (dp_same s2.sh _ _ rb)) m2))⟩
/-- a def of which nothing is asked -/
theorem cal_no {T : DKd} {Pg : Program} {w : World} {K : PySem.W.Frag} {mg : Str → Option Value} {base : Heap} {k : Nat} {f : Addr} {x : Str} {st : Stmt} {fd : FuncData} {ps : List Str} (F : Fun K x x st f fd) (hm : mg x = some (.ref f))
    (hbi : ∀ (kV doc pm : Value) (an : Option Addr) (cdv ct : Value) (us : List Value), us.length = ps.length → bindArgs (PySem.W.fnOf x x (defArgs st) (defBody st) (defScope st) .none kV doc pm an cdv ct) ⟨us, []⟩ = pure (ps.zip us)) : Cal Pg w K mg base T k x st ps (fun _ _ => False) :=
  ⟨f, fd, F, ⟨fun vs H Q E ⟨_, _, _, _, _, _, z, _⟩ => z.elim, fun A outer s H args us vs Q E _ _ _ _ _ ⟨_, _, _, _, _, _, z, _⟩ => z.elim⟩, hm, F.binds hbi⟩
theorem room65 {k : Nat} {A : Around} (r : Room k A) : A.units + 65 < cLine := by
  have := r.un
  omega
end DL

namespace DL
open PySem PySem.Spec PyProof.Rows L2
/-! ### {} and {'x': 1} among data -/
def xDic0 : DT D := fun _ P => P (.dict [])
def xDic1 (x : Str) (i : Int) : DT D := fun _ P => P (.dict [(.str x, .int i)])
section
variable {T : DKd} {X : Cx} {pos p1 p2 : Pos}
theorem d_dic0 : DE T X (.Dict [] [] pos) xDic0 := ⟨PE.imp pe_dnewK fun σ H Q ⟨en, ρ, dk, HS, P, E, q, k⟩ p hp => k _ _ _ _ q (E.wd.lay hp) (.dic upd_same .nil)⟩
theorem upd_twice (H : Hp) (p : Addr) (o u : HO) : upd (upd H p o) p u = upd H p u := by
  funext b
  unfold upd
  split <;> rfl
theorem d_dic1 {x : Str} {i : Int} {j1 j2 : Nat} : DE T X (.Dict [some (.Constant (.str x) j1 p1)] [.Constant (.int i) j2 p2] pos) (xDic1 x i) :=
  ⟨PE.imp (pe_disp (pps_cons pe_str pe_int pps_nil) rfl rfl (fun z => by cases z) (show (1 : Nat) ≤ 15 by decide)) fun σ H Q ⟨en, ρ, dk, HS, P, E, q, k⟩ p hp => by
    refine ⟨upd_same, [(.inr x, .int i)], rfl, (show (1 : Nat) ≤ 15 by decide), ?_⟩
    rw [upd_twice]
    exact k _ _ _ _ q (E.wd.lay hp) (.dic upd_same (.one x i))⟩
end
/-! ### the source of drawn numbers of the third kind: a list of a list, an int and a mixed number -/
def bagT : DKd where
  lies H p g := ∃ (gs : List Int) (a m : Int), H p = some (.lst [.ref g, .int a, .int m]) ∧ H g = some (.lst (gs.map V.int)) ∧ gs.length ≤ 63 ∧ 0 ≤ a ∧ 0 ≤ m ∧ m < 2 ^ 32
  loc h1 h2 := fun ⟨gs, a, m, x, y, c⟩ => ⟨gs, a, m, h1 ▸ x, h2 ▸ y, c⟩
  fstS := fun ⟨_, _, _, a, _⟩ z => by rw [a] at z; cases z
  sndS := fun ⟨_, _, _, _, b, _⟩ z => by rw [b] at z; cases z
end DL

namespace DL
open PySem PySem.Spec PyProof.Rows L2
/-! ### of use for many laws -/
theorem rg0 (n : Nat) : rangeD 0 n = (List.range n).map fun (k : Nat) => PyData.int (k : Int) := by
  unfold rangeD
  refine List.map_congr_left fun k _ => ?_
  rw [Int.zero_add]
theorem rg_ok (n : Nat) (h : n ≤ 1000000) : RgOk 0 (n : Int) := RgOk.of_le (Int.le_refl 0) (show (n : Int) ≤ 16777216 by omega) (show (0 : Int) ≤ 16777216 by decide) (show (0 : Int) ≤ n by omega)
theorem erase_perm {α : Type} : ∀ (l : List α) (i : Nat) (h : i < l.length), (l[i]'h :: l.eraseIdx i).Perm l
  | x :: r, 0, _ => List.Perm.refl _
  | x :: r, i + 1, h => (List.Perm.swap ..).trans (List.Perm.cons _ (erase_perm r i (Nat.lt_of_succ_lt_succ h)))
theorem map_erase {α β : Type} (f : α → β) : ∀ (l : List α) (i : Nat), (l.map f).eraseIdx i = (l.eraseIdx i).map f
  | [], _ => rfl
  | x :: r, 0 => rfl
  | x :: r, i + 1 => congrArg (f x :: ·) (map_erase f r i)
theorem cNe_nil {ds : List D} (h : okD (.list ds) = true) : cNe (.list ds) (.list []) = some (!decide (ds = [])) := by
  simp only [cNe]
  rw [if_pos ⟨h, rfl⟩]
  cases ds with
  | nil => rfl
  | cons x r =>
    rw [decide_eq_false (by simp)]
    rfl
theorem okD_nats (l : List Nat) : okD (.list (l.map fun (k : Nat) => PyData.int (k : Int))) = true := by
  have := okD_intsL (l.map fun (k : Nat) => (k : Int))
  rw [List.map_map] at this
  exact this
theorem okD_natsT (l : List Nat) : okD (.tuple (l.map fun (k : Nat) => PyData.int (k : Int))) = true := okD_nats l
theorem ixN_nat {n k : Nat} (h : k < n) : ixN n (k : Int) = some k := by
  unfold ixN
  rw [if_pos (by omega), if_pos (by omega), Int.toNat_natCast]
theorem cutN_hi (l : List Nat) {k : Nat} (h : k ≤ l.length) : cutD (l.map fun (k : Nat) => PyData.int (k : Int)) none (some (k : Int)) = (l.take k).map fun (k : Nat) => PyData.int (k : Int) := by
  rw [cut_hi (by rw [List.length_map]; exact h), List.map_take]
theorem cutN_lo (l : List Nat) {k : Nat} (h : k ≤ l.length) : cutD (l.map fun (k : Nat) => PyData.int (k : Int)) (some (k : Int)) none = (l.drop k).map fun (k : Nat) => PyData.int (k : Int) := by
  rw [cut_lo (by rw [List.length_map]; exact h), List.map_drop]
/-- ints that are all from naturals -/
theorem nats_of : ∀ ns : List Int, (∀ x ∈ ns, 0 ≤ x) → ∃ l : List Nat, ns = l.map fun (k : Nat) => (k : Int)
  | [], _ => ⟨[], rfl⟩
  | x :: r, h => by
    obtain ⟨l, e⟩ := nats_of r fun y hy => h y (List.mem_cons_of_mem _ hy)
    refine ⟨x.toNat :: l, ?_⟩
    rw [List.map_cons, ← e, Int.toNat_of_nonneg (h x (List.mem_cons_self ..))]
theorem memD_nats (x : Nat) : ∀ l : List Nat, memD (.int (x : Int)) (l.map fun (k : Nat) => PyData.int (k : Int)) = l.contains x
  | [] => rfl
  | y :: r => by
    have e := memD_nats x r
    have h : PyData.eqv (.int (y : Int)) (.int (x : Int)) = (x == y) := by
      simp [PyData.eqv]
      rw [Bool.eq_iff_iff]
      simp
      omega
    have e2 : memD (.int (x : Int)) (.int (y : Int) :: r.map fun (k : Nat) => PyData.int (k : Int)) = (PyData.eqv (.int (y : Int)) (.int (x : Int)) || memD (.int (x : Int)) (r.map fun (k : Nat) => PyData.int (k : Int))) := rfl
    rw [List.map_cons, e2, e, h, List.contains_cons]
theorem cIn_natsT (x : Nat) (l : List Nat) : cIn (.int (x : Int)) (.tuple (l.map fun (k : Nat) => PyData.int (k : Int))) = some (l.contains x) := by
  unfold cIn
  rw [if_pos ⟨rfl, okD_natsT l⟩]
  show some (memD _ _) = _
  rw [memD_nats]
theorem cNotIn_natsT (x : Nat) (l : List Nat) : cNotIn (.int (x : Int)) (.tuple (l.map fun (k : Nat) => PyData.int (k : Int))) = some (!l.contains x) := by
  unfold cNotIn
  rw [if_pos ⟨rfl, okD_natsT l⟩]
  show some (!memD _ _) = _
  rw [memD_nats]
theorem cut_mem {ds : List D} {lo hi : Option Int} {d : D} (h : d ∈ DL.cutD ds lo hi) : d ∈ ds := by
  unfold DL.cutD at h
  exact List.mem_of_mem_drop (List.mem_of_mem_take h)
theorem cut_len (ds : List D) (lo hi : Option Int) : (DL.cutD ds lo hi).length ≤ ds.length := by
  unfold DL.cutD
  rw [List.length_take, List.length_drop]
  omega
theorem cEq_nilT {ds : List D} (h : okD (.tuple ds) = true) : cEq (.tuple ds) (.tuple []) = some (decide (ds = [])) := by
  simp only [cEq]
  rw [if_pos ⟨h, rfl⟩]
  cases ds with
  | nil => rfl
  | cons x r =>
    rw [decide_eq_false (by simp)]
    rfl
/-! ### values of all kinds, small ones (items) and rows of them -/
def It (v : D) : Prop := FitD 420 6 40 v ∧ dictOk v = true
def GoodV (v : D) : Prop := FitD 420 7 29000 v ∧ dictOk v = true
def itB (v : D) : Bool := smallD 420 v && (decide (v.depth ≤ 6) && (decide (v.bulk ≤ 40) && dictOk v))
theorem it_of {v : D} (h : itB v = true) : It v := by
  unfold itB at h
  simp only [Bool.and_eq_true, decide_eq_true_eq] at h
  exact ⟨⟨h.1, h.2.1, h.2.2.1⟩, h.2.2.2⟩
theorem it_all {ds : List D} (h : ds.all itB = true) : ∀ d ∈ ds, It d := fun d hd => it_of (List.all_eq_true.mp h d hd)
theorem it_int {i : Int} (h : i.natAbs < 2 ^ 420) : It (.int i) := ⟨fitd_int 5 40 h, rfl⟩
theorem it_none : It .none := ⟨fitd_none 5 40, rfl⟩
theorem it_bool (b : Bool) : It (.bool b) := ⟨fitd_bool 5 40, rfl⟩
theorem It.good {v : D} (h : It v) : GoodV v := ⟨h.1.up (by decide) (by decide), h.2⟩
theorem hasDict_all {ds : List D} (h : ∀ d ∈ ds, d.hasDict = false) : PyData.hasDictAll ds = false := by
  induction ds with
  | nil => rfl
  | cons x r ih =>
    have h1 := h x (List.mem_cons_self ..)
    have h2 := ih fun y hy => h y (List.mem_cons_of_mem _ hy)
    simp [PyData.hasDictAll, h1, h2]
theorem noL_all {ds : List D} (h : ∀ d ∈ ds, noL d = true) : noLs ds = true := by
  induction ds with
  | nil => rfl
  | cons x r ih =>
    have h1 := h x (List.mem_cons_self ..)
    have h2 := ih fun y hy => h y (List.mem_cons_of_mem _ hy)
    simp [noLs, h1, h2]
theorem good_tup {ds : List D} (h : ∀ d ∈ ds, It d) (hc : (∀ d ∈ ds, d.hasDict = false) ∨ ∀ d ∈ ds, noL d = true) (hl : ds.length ≤ 700) : GoodV (.tuple ds) := by
  refine ⟨(fitd_tup (fitd_id ds fun d hd => (h d hd).1)).up (by decide) (by omega), ?_⟩
  rcases hc with hc | hc
  · exact dictOk_of (by simpa [PyData.hasDict] using hasDict_all hc)
  · unfold dictOk
    have : noL (.tuple ds) = true := noL_all hc
    rw [this, Bool.or_true]
theorem good_lst {ds : List D} (h : ∀ d ∈ ds, It d) (hc : ∀ d ∈ ds, d.hasDict = false) (hl : ds.length ≤ 700) : GoodV (.list ds) :=
  ⟨(fitd_list (fitd_id ds fun d hd => (h d hd).1)).up (by decide) (by omega), dictOk_of (by simpa [PyData.hasDict] using hasDict_all hc)⟩
/-- a small int, a bool, None, a text: it is no dict and holds no list -/
def Cl (d : D) : Prop := It d ∧ d.hasDict = false ∧ noL d = true
theorem cl_int {i : Int} (h : i.natAbs < 2 ^ 420) : Cl (.int i) := ⟨it_int h, rfl, rfl⟩
theorem cl_nats {l : List Nat} (h : ∀ x ∈ l, x ≤ 1000000) : ∀ d ∈ (l.map fun (k : Nat) => PyData.int (k : Int)), Cl d := fun d hd => by
  obtain ⟨x, hx, rfl⟩ := List.mem_map.mp hd
  exact cl_int (Nat.lt_of_le_of_lt (h x hx) (by decide))
theorem It.one {w : D} (h : It w) : w.hasDict = false ∨ noL w = true := by
  have := h.2
  unfold dictOk at this
  cases e : w.hasDict with
  | false => exact .inl rfl
  | true => rw [e] at this; exact .inr (by simpa using this)
/-- rows of clean ones and of one w -/
theorem good_with {ds : List D} {w : D} (hw : It w) (h : ∀ d ∈ ds, Cl d ∨ d = w) (hl : ds.length ≤ 700) : GoodV (.tuple ds) := by
  refine good_tup (fun d hd => ?_) ?_ hl
  · rcases h d hd with c | rfl
    · exact c.1
    · exact hw
  · rcases hw.one with c | c
    · refine .inl fun d hd => ?_
      rcases h d hd with q | rfl
      · exact q.2.1
      · exact c
    · refine .inr fun d hd => ?_
      rcases h d hd with q | rfl
      · exact q.2.2
      · exact c
theorem good_cl {ds : List D} (h : ∀ d ∈ ds, Cl d) (hl : ds.length ≤ 700) : GoodV (.tuple ds) := good_tup (fun d hd => (h d hd).1) (.inl fun d hd => (h d hd).2.1) hl
theorem good_clL {ds : List D} (h : ∀ d ∈ ds, Cl d) (hl : ds.length ≤ 700) : GoodV (.list ds) := good_lst (fun d hd => (h d hd).1) (fun d hd => (h d hd).2.1) hl
theorem GoodV.repr {v : D} (h : GoodV v) : ∃ t, fRepr [v] = some (.str t) := fReprD_any h.1 (by decide) (by decide) (by decide) (by decide) h.2
end DL

namespace DL
open PySem PySem.Spec PyProof.Rows L2
/-! ### tuples of naturals -/
def nD (l : List Nat) : D := .tuple (l.map fun (k : Nat) => .int (k : Int))
theorem okD_nD (l : List Nat) : okD (nD l) = true := okD_natsT l
theorem fit_nD {l : List Nat} (h : l.length ≤ 102) (hx : ∀ x ∈ l, x ≤ 1000000) : Fit 200 2 110 (nD l) :=
  (fit_tup (fit_map (f := fun (k : Nat) => PyData.int (k : Int)) l fun x hx' => fit_int 0 0 (by have := hx x hx'; exact Nat.lt_of_le_of_lt (show (x : Int).natAbs ≤ 1000000 by omega) (by decide)))).up (by decide) (by omega)
theorem rep2 {d : D} (h : Fit 200 4 200 d) : RepOk (.list [d, d]) := (fit_list (fit_cons h (fit_cons h (fit_nil _ 0)))).ok (by decide) (by decide) (by decide) (by decide)
theorem ixT {r : List Nat} {i : Nat} {z : Int} (hz : z = (i : Int)) (h : i < r.length) : oIx (nD r) (.int z) = some (.int (r.getD i 0 : Nat)) := by
  have e : r.getD i 0 = r[i] := by
    rw [List.getD_eq_getElem?_getD, List.getElem?_eq_getElem h]
    rfl
  rw [e]
  exact oIx_tupf (g := fun (k : Nat) => PyData.int (k : Int)) hz (List.getElem?_eq_getElem h)
theorem eqv_nats : ∀ l m : List Nat, PyData.eqvAll (l.map fun (k : Nat) => PyData.int (k : Int)) (m.map fun (k : Nat) => PyData.int (k : Int)) = decide (l = m)
  | [], [] => rfl
  | [], y :: m => rfl
  | x :: l, [] => rfl
  | x :: l, y :: m => by
    have e := eqv_nats l m
    have h : PyData.eqv (.int (x : Int)) (.int (y : Int)) = (x == y) := by
      simp [PyData.eqv]
      rw [Bool.eq_iff_iff]
      simp
      omega
    rw [List.map_cons, List.map_cons, PyData.eqvAll, e, h]
    rw [Bool.eq_iff_iff]
    simp
theorem eqv_nD (l m : List Nat) : PyData.eqv (nD l) (nD m) = decide (l = m) := eqv_nats l m
theorem cEq_nD (l m : List Nat) : cEq (nD l) (nD m) = some (decide (l = m)) := by
  show (if okD (nD l) = true ∧ okD (nD m) = true then some (PyData.eqv (nD l) (nD m)) else none) = _
  rw [if_pos ⟨okD_nD l, okD_nD m⟩, eqv_nD]
theorem cNe_nD (l m : List Nat) : cNe (nD l) (nD m) = some (!decide (l = m)) := by
  show (if okD (nD l) = true ∧ okD (nD m) = true then some (!PyData.eqv (nD l) (nD m)) else none) = _
  rw [if_pos ⟨okD_nD l, okD_nD m⟩, eqv_nD]
theorem depth_nats (l : List Nat) : PyData.depthAll (l.map fun (k : Nat) => PyData.int (k : Int)) ≤ 1 := by
  induction l with
  | nil => simp only [List.map_nil, PyData.depthAll]; omega
  | cons x r ih => simp only [List.map_cons, PyData.depthAll, PyData.depth]; omega
theorem depth_nD (l : List Nat) : (nD l).depth ≤ 2 := by
  have := depth_nats l
  show PyData.depthAll _ + 1 ≤ 2
  omega
theorem lay_nD (l : List Nat) : (nD l).canLay0 = true := by
  have := okD_nD l
  unfold okD SeqAt.shaped at this
  rw [Bool.and_eq_true] at this
  exact this.1
theorem nDs_lay (L : List (List Nat)) : PyData.canLayAll0 (L.map nD) = true := by
  induction L with
  | nil => rfl
  | cons x r ih =>
    have := lay_nD x
    simp only [List.map_cons, PyData.canLayAll0, ih, this, Bool.and_self]
theorem nDs_depth (L : List (List Nat)) : PyData.depthAll (L.map nD) ≤ 2 := by
  induction L with
  | nil => simp only [List.map_nil, PyData.depthAll]; omega
  | cons x r ih =>
    have := depth_nD x
    simp only [List.map_cons, PyData.depthAll]
    omega
theorem okD_nDs (L : List (List Nat)) : okD (.list (L.map nD)) = true := by
  have h1 := nDs_lay L
  have h2 := nDs_depth L
  show (PyData.canLayAll0 (L.map nD) && decide (PyData.depthAll (L.map nD) + 1 ≤ 64)) = true
  rw [h1, decide_eq_true (by omega)]
  rfl
theorem okD_nDsT (L : List (List Nat)) : okD (.tuple (L.map nD)) = true := okD_nDs L
theorem memD_nDs (b : List Nat) : ∀ L : List (List Nat), memD (nD b) (L.map nD) = L.contains b
  | [] => rfl
  | x :: r => by
    have e := memD_nDs b r
    show (PyData.eqv (nD x) (nD b) || memD (nD b) (r.map nD)) = _
    rw [e, eqv_nD, List.contains_cons]
    congr 1
    rw [Bool.eq_iff_iff]
    simp
    exact ⟨fun h => h.symm, fun h => h.symm⟩
theorem cIn_nDs (b : List Nat) (L : List (List Nat)) : cIn (nD b) (.list (L.map nD)) = some (L.contains b) := by
  unfold cIn
  rw [if_pos ⟨okD_nD b, okD_nDs L⟩]
  show some (memD _ _) = _
  rw [memD_nDs]
theorem cIn_nDsT (b : List Nat) (L : List (List Nat)) : cIn (nD b) (.tuple (L.map nD)) = some (L.contains b) := by
  unfold cIn
  rw [if_pos ⟨okD_nD b, okD_nDsT L⟩]
  show some (memD _ _) = _
  rw [memD_nDs]
theorem cNotIn_nDs (b : List Nat) (L : List (List Nat)) : cNotIn (nD b) (.list (L.map nD)) = some (!L.contains b) := by
  unfold cNotIn
  rw [if_pos ⟨okD_nD b, okD_nDs L⟩]
  show some (!memD _ _) = _
  rw [memD_nDs]
/-! ### x is True -/
def cIsB : D → D → Option Bool
  | .bool a, .bool b => some (decide (a = b))
  | _, _ => none
def cIsNotB : D → D → Option Bool
  | .bool a, .bool b => some (!decide (a = b))
  | _, _ => none
theorem do_isB {T : DKd} {X : Cx} : OpR X (compareOp .Is) (rB T X.K cIsB) := opr_imp op_is_bl fun x y H Q q => by
  obtain ⟨dk, HS, dx, dy, dz, w, rx, ry, e, k⟩ := q
  unfold cIsB at e
  split at e
  · cases e
    exact ⟨_, _, rx.bool, ry.bool, k⟩
  · cases e
theorem do_isnotB {T : DKd} {X : Cx} : OpR X (compareOp .IsNot) (rB T X.K cIsNotB) := opr_imp op_isnot_bl fun x y H Q q => by
  obtain ⟨dk, HS, dx, dy, dz, w, rx, ry, e, k⟩ := q
  unfold cIsNotB at e
  split at e
  · cases e
    exact ⟨_, _, rx.bool, ry.bool, k⟩
  · cases e
/-! ### small rows -/
theorem oMul2 (u v : D) : oMul (.list [u, v]) (.int 2) = some (.list [u, v, u, v]) := by
  show (if -(2 ^ 63) ≤ (2 : Int) ∧ (2 : Int) < 2 ^ 63 ∧ [u, v].length * (2 : Int).toNat ≤ sizeLine then some (PyData.list (List.replicate (2 : Int).toNat [u, v]).flatten) else none) = _
  rw [if_pos ⟨by decide, by decide, le_line (by simp)⟩]
  rfl
theorem oMul1 (u : D) : oMul (.list [u]) (.int 2) = some (.list [u, u]) := by
  show (if -(2 ^ 63) ≤ (2 : Int) ∧ (2 : Int) < 2 ^ 63 ∧ [u].length * (2 : Int).toNat ≤ sizeLine then some (PyData.list (List.replicate (2 : Int).toNat [u]).flatten) else none) = _
  rw [if_pos ⟨by decide, by decide, le_line (by simp)⟩]
  rfl
theorem zipD_mm {α β : Type} (f : α → D) (g : β → D) : ∀ (l : List α) (m : List β), zipD (l.map f) (m.map g) = (l.zip m).map fun z => .tuple [f z.1, g z.2]
  | [], m => by cases m <;> rfl
  | x :: l, [] => rfl
  | x :: l, y :: m => congrArg (_ :: ·) (zipD_mm f g l m)
theorem ixN_last (n : Nat) : ixN (n + 1) (-1) = some n := by
  unfold ixN
  simp
  omega
theorem cut_last (ds : List D) : cutD ds none (some (-1)) = ds.dropLast := by
  unfold cutD
  have e1 : HT.sIx ds.length 0 none = 0 := rfl
  have e2 : HT.sIx ds.length ds.length (some (-1)) = ds.length - 1 := by
    simp only [HT.sIx]
    rw [if_pos (by decide)]
    omega
  rw [e1, e2, List.drop_zero, Nat.sub_zero, List.dropLast_eq_take]
end DL

namespace DL
open PySem PySem.Spec PyProof.Rows L2
/-! ### dicts of one's own: what they hold -/
section
open Classical
noncomputable def getD : List (D × D) → D → Option D
  | [], _ => none
  | p :: r, k => if p.1 = k then some p.2 else getD r k
noncomputable def putD (kvs : List (D × D)) (k v : D) : List (D × D) :=
  if (getD kvs k).isSome = true then kvs.map (fun p => if p.1 = k then (p.1, v) else p) else kvs ++ [(k, v)]
theorem getD_pos {p : D × D} {r : List (D × D)} {k : D} (e : p.1 = k) : getD (p :: r) k = some p.2 := by rw [getD, if_pos e]
theorem getD_neg {p : D × D} {r : List (D × D)} {k : D} (e : ¬ p.1 = k) : getD (p :: r) k = getD r k := by rw [getD, if_neg e]
theorem getD_map (k j v : D) : ∀ kvs : List (D × D), getD (kvs.map fun p => if p.1 = k then (p.1, v) else p) j = (getD kvs j).map fun x => if j = k then v else x
  | [] => rfl
  | p :: r => by
    rw [List.map_cons]
    by_cases h : p.1 = k
    · rw [if_pos h]
      by_cases e : p.1 = j
      · rw [getD_pos (p := (p.1, v)) e, getD_pos e, Option.map_some, if_pos (e.symm.trans h)]
      · rw [getD_neg (p := (p.1, v)) e, getD_neg e, getD_map k j v r]
    · rw [if_neg h]
      by_cases e : p.1 = j
      · rw [getD_pos e, getD_pos e, Option.map_some, if_neg (fun z => h (e.trans z))]
      · rw [getD_neg e, getD_neg e, getD_map k j v r]
theorem getD_snoc (k j v : D) : ∀ kvs : List (D × D), getD kvs k = none → getD (kvs ++ [(k, v)]) j = if j = k then some v else getD kvs j
  | [], _ => by
    by_cases e : k = j
    · rw [if_pos e.symm]; exact getD_pos (p := (k, v)) e
    · rw [if_neg (fun z => e z.symm)]; exact getD_neg (p := (k, v)) e
  | p :: r, hn => by
    rw [List.cons_append]
    have hk : ¬ p.1 = k := fun z => by rw [getD_pos z] at hn; cases hn
    rw [getD_neg hk] at hn
    by_cases e : p.1 = j
    · rw [getD_pos e, getD_pos e, if_neg (fun z => hk (e.trans z))]
    · rw [getD_neg e, getD_neg e, getD_snoc k j v r hn]
theorem getD_put (kvs : List (D × D)) (k j v : D) : getD (putD kvs k v) j = if j = k then some v else getD kvs j := by
  unfold putD
  by_cases a : (getD kvs k).isSome = true
  · rw [if_pos a, getD_map]
    by_cases e : j = k
    · subst e
      obtain ⟨x, hx⟩ := Option.isSome_iff_exists.mp a
      rw [if_pos rfl, hx, Option.map_some, if_pos rfl]
    · rw [if_neg e]
      cases getD kvs j with
      | none => rfl
      | some x => rw [Option.map_some, if_neg e]
  · rw [if_neg a]
    refine getD_snoc k j v kvs ?_
    cases q : getD kvs k with
    | none => rfl
    | some x => rw [q] at a; exact (a rfl).elim
end
theorem getD_same (kvs : List (D × D)) (k v : D) : getD (putD kvs k v) k = some v := by rw [getD_put, if_pos rfl]
theorem getD_other {kvs : List (D × D)} {k j v : D} (h : j ≠ k) : getD (putD kvs k v) j = getD kvs j := by rw [getD_put, if_neg h]
theorem putD_len (kvs : List (D × D)) (k v : D) : (putD kvs k v).length ≤ kvs.length + 1 := by
  unfold putD
  split
  · rw [List.length_map]; omega
  · rw [List.length_append]; exact Nat.le_refl _
theorem putD_new {kvs : List (D × D)} {k : D} (v : D) (h : getD kvs k = none) : putD kvs k v = kvs ++ [(k, v)] := by
  unfold putD
  rw [h]
  exact if_neg (by decide)
/-! ### .. and how the heap tells it -/
theorem keyD_inj {a b : Key} (h : keyD a = keyD b) : a = b := by
  cases a <;> cases b <;> cases h <;> rfl
theorem keyT_inj {a b : List Key} (h : PyData.tuple (a.map keyD) = PyData.tuple (b.map keyD)) : a = b := by
  have h' : a.map keyD = b.map keyD := by injection h
  clear h
  induction a generalizing b with
  | nil => cases b with
    | nil => rfl
    | cons y ys => cases h'
  | cons x xs ih => cases b with
    | nil => cases h'
    | cons y ys =>
      rw [List.map_cons, List.map_cons] at h'
      injection h' with h1 h2
      rw [keyD_inj h1, ih h2]
def OvR (K : PySem.W.Frag) (HS : Hp) : Option V → Option D → Prop
  | none, none => True
  | some x, some d => Rv K HS x d
  | _, _ => False
section
variable {κ : Type} [DecidableEq κ] {K : PySem.W.Frag} {HS : Hp} {f : κ → D}
theorem Kvr.get (hf : ∀ a b, f a = f b → a = b) : ∀ {us : List (κ × V)} {kvs : List (D × D)}, Kvr K HS f us kvs → ∀ k, OvR K HS (valV us k) (getD kvs (f k))
  | _, _, .nil, k => trivial
  | _, _, .cons (k := j) h t, k => by
    by_cases e : j = k
    · subst e
      rw [valV_pos rfl, getD_pos rfl]
      exact h
    · rw [valV_neg e, getD_neg fun z => e (hf _ _ z)]
      exact Kvr.get hf t k
theorem Kvr.map (hf : ∀ a b, f a = f b → a = b) {k : κ} {v : V} {d : D} (r : Rv K HS v d) [DecidablePred fun a : D => a = f k] : ∀ {us : List (κ × V)} {kvs : List (D × D)}, Kvr K HS f us kvs →
    Kvr K HS f (us.map fun kv => if kv.1 = k then (kv.1, v) else kv) (kvs.map fun p => if p.1 = f k then (p.1, d) else p)
  | _, _, .nil => .nil
  | _, _, .cons (k := j) h t => by
    rw [List.map_cons, List.map_cons]
    by_cases e : j = k
    · subst e
      rw [if_pos rfl, if_pos rfl]
      exact .cons r (Kvr.map hf r t)
    · rw [if_neg e, if_neg fun z => e (hf _ _ z)]
      exact .cons h (Kvr.map hf r t)
theorem Kvr.snoc {k : κ} {v : V} {d : D} (r : Rv K HS v d) : ∀ {us : List (κ × V)} {kvs : List (D × D)}, Kvr K HS f us kvs → Kvr K HS f (us ++ [(k, v)]) (kvs ++ [(f k, d)])
  | _, _, .nil => .cons r .nil
  | _, _, .cons h t => .cons h (Kvr.snoc r t)
theorem OvR.isSome {o : Option V} {u : Option D} (r : OvR K HS o u) : o.isSome = u.isSome := by
  cases o <;> cases u <;> first | rfl | exact r.elim
theorem Kvr.put (hf : ∀ a b, f a = f b → a = b) {us : List (κ × V)} {kvs : List (D × D)} (q : Kvr K HS f us kvs) {k : κ} {v : V} {d : D} (r : Rv K HS v d) : Kvr K HS f (putK us k v) (putD kvs (f k) d) := by
  unfold putK putD
  rw [valV_any, (q.get hf k).isSome]
  by_cases c : (getD kvs (f k)).isSome = true
  · rw [if_pos c, if_pos c]
    letI : DecidablePred fun a : D => a = f k := fun a => Classical.propDecidable _
    exact Kvr.map (k := k) hf r q
  · rw [if_neg c, if_neg c]
    exact q.snoc r
theorem Kvr.len {us : List (κ × V)} {kvs : List (D × D)} (q : Kvr K HS f us kvs) : us.length = kvs.length := by
  induction q with
  | nil => rfl
  | cons _ _ ih => rw [List.length_cons, List.length_cons, ih]
end
/-- what may be a key -/
def okKey (t : Bool) (d : D) : Prop := match t with
  | false => ∃ k, d = keyD k
  | true => ∃ ks : List Key, d = .tuple (ks.map keyD)
theorem okKey_int (i : Int) : okKey false (.int i) := ⟨.inl i, rfl⟩
theorem okKey_str (x : Str) : okKey false (.str x) := ⟨.inr x, rfl⟩
theorem okKey_map {α : Type} (f : α → Int) (l : List α) : okKey true (.tuple (l.map fun x => .int (f x))) := ⟨l.map fun x => .inl (f x), by rw [List.map_map]; rfl⟩
theorem okKey_nD (l : List Nat) : okKey true (nD l) := okKey_map (fun x : Nat => (x : Int)) l
section
variable {T : DKd} {K : PySem.W.Frag} {en : Ent} {ρ : Envd} {dk : DkA} {HS H : Hp} {σ : L2.St} {i : Nat}
theorem rvs_keys {HS : Hp} : ∀ {ks : List Key} {vs : List V}, Rvs K HS vs (ks.map keyD) → vs = ks.map kV
  | [], _, .nil => rfl
  | k :: ks, _, .cons h t => by
    rw [List.map_cons, rvs_keys t]
    cases k <;> (cases h; rfl)
theorem dct_get {p : Addr} {o : HO} {t : Bool} {kvs : List (D × D)} (w : Wd T dk HS H) (hp : H p = some o) (q : DctR K HS t kvs o) {v : V} {k : D} (r : Rv K HS v k) (ok : okKey t k) : ∃ ov, DGet H p v ov ∧ OvR K HS ov (getD kvs k) := by
  rcases q with ⟨rfl, us, rfl, q⟩ | ⟨rfl, us, rfl, q⟩
  · obtain ⟨k, rfl⟩ := ok
    have e : v = kV k := by cases k <;> (cases r; rfl)
    subst e
    exact ⟨_, .k hp, q.get (fun _ _ => keyD_inj) k⟩
  · obtain ⟨ks, rfl⟩ := ok
    cases r with
    | tup h q2 =>
      have e := rvs_keys q2
      subst e
      exact ⟨_, .t hp (w.sub _ _ h), q.get (fun _ _ => keyT_inj) ks⟩
theorem dct_put {p : Addr} {o : HO} {t : Bool} {kvs : List (D × D)} (w : Wd T dk HS H) (hp : H p = some o) (q : DctR K HS t kvs o) {v x : V} {k d : D} (r : Rv K HS v k) (rx : Rv K HS x d) (ok : okKey t k) (hl : kvs.length < sizeLine) : ∃ o', DPut H p v x (upd H p o') ∧ DctR K HS t (putD kvs k d) o' := by
  rcases q with ⟨rfl, us, rfl, q⟩ | ⟨rfl, us, rfl, q⟩
  · obtain ⟨k, rfl⟩ := ok
    have e : v = kV k := by cases k <;> (cases r; rfl)
    subst e
    exact ⟨_, .k hp (by rw [q.len]; exact hl), .inl ⟨rfl, _, rfl, q.put (fun _ _ => keyD_inj) rx⟩⟩
  · obtain ⟨ks, rfl⟩ := ok
    cases r with
    | tup h q2 =>
      have e := rvs_keys q2
      subst e
      exact ⟨_, .t hp (w.sub _ _ h) (by rw [q.len]; exact hl), .inr ⟨rfl, _, rfl, q.put (fun _ _ => keyT_inj) rx⟩⟩
end
theorem hu1_5 {u : Nat} (h : u + 65 < cLine) : u + 1 < cLine := by omega
/-! ### readings -/
def xDctN (t : Bool) : DT Slot := fun _ P => P (.dct t [])
def yNewS (i : Nat) (tx : DT Slot) : DTS := fun P ρ => tx ρ fun s => P.nx (ρ.set i s)
def xDGet (i : Nat) (tk : DT D) : DT D := fun ρ P => ∃ t kvs, sl ρ i = .dct t kvs ∧ tk ρ fun k => okKey t k ∧ ∃ d, getD kvs k = some d ∧ P d
def xDIn (i : Nat) (tk : DT D) : DT Bool := fun ρ P => ∃ t kvs, sl ρ i = .dct t kvs ∧ tk ρ fun k => okKey t k ∧ P (getD kvs k).isSome
def xDNotIn (i : Nat) (tk : DT D) : DT Bool := fun ρ P => ∃ t kvs, sl ρ i = .dct t kvs ∧ tk ρ fun k => okKey t k ∧ P (!(getD kvs k).isSome)
def yDPut (i : Nat) (tv tk : DT D) : DTS := fun P ρ => ∃ t kvs, sl ρ i = .dct t kvs ∧ tv ρ fun d => tk ρ fun k => okKey t k ∧ kvs.length < sizeLine ∧ P.nx (ρ.set i (.dct t (putD kvs k d)))
section
variable {T : DKd} {X : Cx} {e ix : Expr} {ta tb tk tv : DT D} {tx : DT Slot} {pos p1 p2 : Pos} {x1 : Str}
theorem dx_dctK : DX T X (.Dict [] [] pos) (xDctN false) := ⟨PE.imp pe_dnewK fun σ H Q ⟨en, ρ, dk, HS, P, E, q, k⟩ p hp => by
  obtain ⟨s2, m, n⟩ := E.wd.layOwn (o := .dK []) hp
  exact k _ _ _ _ q s2 ⟨p, _, rfl, hp, m, n, upd_same, .inl ⟨rfl, [], rfl, .nil⟩⟩⟩
theorem dx_dctT : DX T X (.Dict [] [] pos) (xDctN true) := ⟨PE.imp pe_dnewT fun σ H Q ⟨en, ρ, dk, HS, P, E, q, k⟩ p hp => by
  obtain ⟨s2, m, n⟩ := E.wd.layOwn (o := .dT []) hp
  exact k _ _ _ _ q s2 ⟨p, _, rfl, hp, m, n, upd_same, .inr ⟨rfl, [], rfl, .nil⟩⟩⟩
/-- name = a new thing -/
theorem ds_newS (i : Nat) {x : Str} {pos' : Pos} (hN : X.N.Nodup) (he : DX T X e tx) (hi : X.N[i]? = some x := by rfl) (hx : Loc X.env.scope x := by first | exact .inl rfl | exact .inr rfl) (hs : swapsWith e (some (.Name x pos')) pos.line X.env = pure false := by rfl)
    (hf : X.fn x = true ∨ X.env.scope.names.lookup x = some .local := by first | exact .inl rfl | exact .inr rfl) : DS T X (.Assign [.Name x pos'] e pos) (yNewS i tx) :=
  ⟨PS.imp (ps_set hN hi hx he.pe hs hf) fun De σ H ⟨en, ρ, dk, HS, P, x⟩ => ⟨en, ρ, dk, HS, _, x.env, x.does, fun d v HS1 H1 p s r => x.nx _ _ _ _ _ p (x.env.setNew s r)⟩⟩
theorem d_dget (i : Nat) (hu : X.A.units + 1 < cLine) (ho : PE X (.Name x1 p1) (tVar i)) (hi : DE T X ix tk) (hs : NoSl ix := by exact fun _ _ => rfl) : DE T X (.Subscript (.Name x1 p1) ix pos) (xDGet i tk) :=
  ⟨PE.imp (pe_dget hu ho hi.pe hs) fun σ H Q h => by
    obtain ⟨en, ρ, dk, HS, P, E, q, k⟩ := h
    obtain ⟨t, kvs, hd, q⟩ := q
    obtain ⟨p, o, h0, h1, m, n, h2, qv, f⟩ := E.dctAt hd
    refine ⟨_, h1, en, ρ, dk, HS, _, E, q, fun d v HS1 H1 pd s r => ?_⟩
    obtain ⟨ok, d2, hg, pd⟩ := pd
    have E1 := E.stp s
    obtain ⟨p', o', h0', h1', m', n', h2', qv', f'⟩ := E1.dctAt hd
    rw [h1] at h1'
    cases h1'
    obtain ⟨ov, g, rr⟩ := dct_get E1.wd h2' qv' r ok
    rw [hg] at rr
    cases ov with
    | none => exact rr.elim
    | some w => exact ⟨p, w, rfl, g, k _ _ _ _ pd s rr⟩⟩
theorem pc_inD (i : Nat) (hu : X.A.units + 1 < cLine) (ho : PE X (.Name x1 p1) (tVar i)) (hi : DE T X e tk) : PC X .In e (.Name x1 p1) (lE T X.K (xB (xDIn i tk))) :=
  ⟨fun pins s σ H Q I h => (pc_din hu hi.pe ho).run pins s σ H Q I (by
    obtain ⟨en, ρ, dk, HS, P, E, q, k⟩ := h
    obtain ⟨t, kvs, hd, q⟩ := q
    refine ⟨en, ρ, dk, HS, _, E, q, fun d v HS1 H1 pd s r => ?_⟩
    obtain ⟨ok, pd⟩ := pd
    have E1 := E.stp s
    obtain ⟨p', o', h0', h1', m', n', h2', qv', f'⟩ := E1.dctAt hd
    obtain ⟨ov, g, rr⟩ := dct_get E1.wd h2' qv' r ok
    refine ⟨_, h1', p', ov, rfl, g, ?_⟩
    rw [rr.isSome]
    exact k _ _ _ _ pd s (.bl _))⟩
theorem pc_notinD (i : Nat) (hu : X.A.units + 1 < cLine) (ho : PE X (.Name x1 p1) (tVar i)) (hi : DE T X e tk) : PC X .NotIn e (.Name x1 p1) (lE T X.K (xB (xDNotIn i tk))) :=
  ⟨fun pins s σ H Q I h => (pc_dnotin hu hi.pe ho).run pins s σ H Q I (by
    obtain ⟨en, ρ, dk, HS, P, E, q, k⟩ := h
    obtain ⟨t, kvs, hd, q⟩ := q
    refine ⟨en, ρ, dk, HS, _, E, q, fun d v HS1 H1 pd s r => ?_⟩
    obtain ⟨ok, pd⟩ := pd
    have E1 := E.stp s
    obtain ⟨p', o', h0', h1', m', n', h2', qv', f'⟩ := E1.dctAt hd
    obtain ⟨ov, g, rr⟩ := dct_get E1.wd h2' qv' r ok
    refine ⟨_, h1', p', ov, rfl, g, ?_⟩
    rw [rr.isSome]
    exact k _ _ _ _ pd s (.bl _))⟩
theorem pt_of {t : DT Bool} {op : CmpOp} {a b : Expr} (h : PC X op a b (lE T X.K (xB t))) (h1 : behindInMarks op b = false) : DB T X (.Compare a [op] [b] pos) t :=
  ⟨PT.imp (pt_cmp h h1) fun σ H Q h => by
    obtain ⟨en, ρ, dk, HS, P, E, q, k⟩ := h
    refine ⟨en, ρ, dk, HS, fun d => ∃ b, d = .bool b ∧ P b, E, ?_, fun d v HS1 H1 p s r => ?_⟩
    · show t ρ fun b => ∃ b', PyData.bool b = .bool b' ∧ P b'
      rw [show (fun b => ∃ b', PyData.bool b = .bool b' ∧ P b') = P from funext fun b => propext ⟨fun ⟨b', e, z⟩ => by cases e; exact z, fun z => ⟨b, rfl, z⟩⟩]
      exact q
    · obtain ⟨b, rfl, p⟩ := p
      cases r
      exact ⟨b, rfl, k b HS1 H1 p s⟩⟩
theorem pe_of {t : DT Bool} {op : CmpOp} {a b : Expr} (h : PC X op a b (lE T X.K (xB t))) (h1 : behindInMarks op b = false) : DE T X (.Compare a [op] [b] pos) (xB t) := ⟨pe_cmp h h1⟩
theorem ds_dput (i : Nat) (hu : X.A.units + 1 < cLine) (hv : DE T X e tv) (ho : PE X (.Name x1 p1) (tVar i)) (hi : DE T X ix tk) (hs : swapsWith e (some (.Subscript (.Name x1 p1) ix p2)) pos.line X.env = pure false := by rfl) : DS T X (.Assign [.Subscript (.Name x1 p1) ix p2] e pos) (yDPut i tv tk) :=
  ⟨PS.imp (ps_dput hu ho hi.pe hv.pe hs) fun De σ H ⟨en, ρ, dk, HS, P, x⟩ => by
    obtain ⟨t, kvs, hd, q⟩ := x.does
    refine ⟨en, ρ, dk, HS, _, x.env, q, fun d v HS1 H1 pd s r => ?_⟩
    have E1 := x.env.stp s
    obtain ⟨p, o, h0, h1, m, n, h2, qv, f⟩ := E1.dctAt hd
    refine ⟨_, h1, en, ρ, dk, HS1, _, E1, pd, fun d2 v2 HS2 H2 pd2 s2 r2 => ?_⟩
    have E2 := E1.stp s2
    obtain ⟨p', o', h0', h1', m', n', h2', qv', f'⟩ := E2.dctAt hd
    rw [h1] at h1'
    cases h1'
    obtain ⟨ok, hl, pd2⟩ := pd2
    obtain ⟨o2, g, q2⟩ := dct_put E2.wd h2' qv' r2 (dp_same s2.sh _ _ r) ok hl
    exact ⟨p, _, rfl, g, x.nx _ dk HS2 _ _ pd2 (E2.mutD h0' h1 m' n' f' q2)⟩⟩
end
/-! ### displays of dicts -/
noncomputable def mergeD (kvs ks : List (D × D)) : List (D × D) := ks.foldl (fun acc p => putD acc p.1 p.2) kvs
def xPairs : List (DT D × DT D) → Envd → (List (D × D) → Prop) → Prop
  | [], _, P => P []
  | (tk, tv) :: r, ρ, P => tk ρ fun k => tv ρ fun v => xPairs r ρ fun ks => P ((k, v) :: ks)
def xDsp (rows : List (DT D × DT D)) : DT Slot := fun ρ P => xPairs rows ρ fun ks => (∀ p ∈ ks, okKey false p.1) ∧ ks.length ≤ 15 ∧ P (.dct false (mergeD [] ks))
/-- e[k], e a dict that is made here -/
def xSubX (tx : DT Slot) (tk : DT D) : DT D := fun ρ P => tx ρ fun s => ∃ t kvs, s = .dct t kvs ∧ tk ρ fun k => okKey t k ∧ ∃ d, getD kvs k = some d ∧ P d
inductive PsR (K : PySem.W.Frag) (HS : Hp) : List (V × V) → List (D × D) → Prop
  | nil : PsR K HS [] []
  | cons {k v : V} {a d : D} {ps : List (V × V)} {ks : List (D × D)} : Rv K HS k a → Rv K HS v d → PsR K HS ps ks → PsR K HS ((k, v) :: ps) ((a, d) :: ks)
theorem psr_keys {K : PySem.W.Frag} {HS : Hp} : ∀ {ps : List (V × V)} {ks : List (D × D)}, PsR K HS ps ks → (∀ p ∈ ks, okKey false p.1) → ∃ us : List (Key × V), ps = us.map (fun kv => (kV kv.1, kv.2)) ∧ Kvr K HS keyD us ks ∧ us.length = ks.length
  | _, _, .nil, _ => ⟨[], rfl, .nil, rfl⟩
  | _, _, .cons (a := a) r1 r2 t, h => by
    obtain ⟨us, e, q, l⟩ := psr_keys t fun p hp => h p (List.mem_cons_of_mem _ hp)
    obtain ⟨k, e2⟩ := h _ (List.mem_cons_self ..)
    obtain rfl : a = keyD k := e2
    have e3 : ∀ {v : V}, Rv K HS v (keyD k) → v = kV k := fun {v} r => by cases k <;> (cases r; rfl)
    refine ⟨(k, _) :: us, ?_, .cons r2 q, congrArg (· + 1) l⟩
    rw [List.map_cons, ← e, e3 r1]
theorem Kvr.merge {K : PySem.W.Frag} {HS : Hp} : ∀ {more us : List (Key × V)} {ks kvs : List (D × D)}, Kvr K HS keyD more ks → Kvr K HS keyD us kvs → Kvr K HS keyD (mergeK us more) (mergeD kvs ks)
  | _, _, _, _, .nil, q => q
  | _, _, _, _, .cons (k := k) h t, q => by
    have z := Kvr.merge t (q.put (k := k) (fun _ _ => keyD_inj) h)
    exact z
theorem PsR.same {K : PySem.W.Frag} {HS HS1 : Hp} (e : Same HS HS1) : ∀ {ps : List (V × V)} {ks : List (D × D)}, PsR K HS ps ks → PsR K HS1 ps ks
  | _, _, .nil => .nil
  | _, _, .cons r1 r2 t => .cons (dp_same e _ _ r1) (dp_same e _ _ r2) (PsR.same e t)
structure DPs (T : DKd) (X : Cx) (pos : Pos) (keys : List (Option Expr)) (values : List Expr) (rows : List (DT D × DT D)) : Prop where
  ps : ∃ trs, PPs X pos keys values trs ∧ ∀ en ρ dk HS H σ (P : List (D × D) → Prop) (Q : List (V × V) → Hp → Prop), EnvR T X.K en ρ dk HS H σ → xPairs rows ρ P → (∀ ks ps HS1 H1, P ks → Stp T dk HS H HS1 H1 → PsR X.K HS1 ps ks → Q ps H1) → tPairs trs σ H Q
section
variable {T : DKd} {X : Cx} {e ix : Expr} {tk tv : DT D} {tx : DT Slot} {rows : List (DT D × DT D)} {pos : Pos} {keys : List (Option Expr)} {values : List Expr}
theorem dps_nil : DPs T X pos [] [] [] := ⟨[], pps_nil, fun en ρ dk HS H σ P Q E q k => k [] [] HS H q (Stp.refl E.wd) .nil⟩
theorem dps_cons {k v : Expr} (hk : DE T X k tk) (hv : DE T X v tv) (hr : DPs T X pos keys values rows) : DPs T X pos (some k :: keys) (v :: values) ((tk, tv) :: rows) := by
  obtain ⟨trs, h1, h2⟩ := hr.ps
  refine ⟨_, pps_cons hk.pe hv.pe h1, fun en ρ dk HS H σ P Q E q kk => ?_⟩
  refine ⟨en, ρ, dk, HS, _, E, q, fun d v HS1 H1 p s r => ⟨en, ρ, dk, HS1, _, E.stp s, p, fun d2 v2 HS2 H2 p2 s2 r2 => ?_⟩⟩
  refine h2 en ρ dk HS2 H2 σ _ _ ((E.stp s).stp s2) p2 fun ks ps HS3 H3 p3 s3 r3 => ?_
  exact kk _ _ HS3 H3 p3 (s.trans (s2.trans s3)) (.cons (dp_same s3.sh _ _ (dp_same s2.sh _ _ r)) (dp_same s3.sh _ _ r2) r3)
theorem dx_disp (h : DPs T X pos keys values rows) (hall : keys.all (·.isSome) = true := by rfl) (hl : keys.length = values.length := by rfl) (h0 : keys ≠ [] := by exact fun z => nomatch z)
    (h15 : keys.length ≤ 15 := by decide) : DX T X (.Dict keys values pos) (xDsp rows) := by
  obtain ⟨trs, h1, h2⟩ := h.ps
  refine ⟨PE.imp (pe_disp h1 hall hl h0 h15) fun σ H Q ⟨en, ρ, dk, HS, P, E, q, k⟩ p hp => ?_⟩
  obtain ⟨s0, m, n⟩ := E.wd.layOwn (o := .dK []) hp
  refine h2 en ρ dk HS _ σ _ _ (E.stp s0) q fun ks ps HS1 H1 pk s1 r => ?_
  obtain ⟨ok, l15, pk⟩ := pk
  obtain ⟨us, e, kr, ul⟩ := psr_keys r ok
  have hp1 : H1 p = some (.dK []) := s1.fr p _ upd_same m
  have n1 : HS1 p = none := by
    cases z : HS1 p with
    | none => rfl
    | some o =>
      have w := s1.new p n (by rw [z]; exact fun y => by cases y)
      rw [upd_same] at w; cases w
  refine ⟨hp1, us, e, by rw [ul]; exact l15, ?_⟩
  have st : Stp T dk HS H HS1 (upd H1 p (.dK (mergeK [] us))) := by
    have s2 := s0.trans s1
    refine ⟨s2.sh, fun b o hb hm => ?_, s2.new, ⟨fun b o hb => ?_, s1.wd.off, fun a g hd => ?_⟩⟩
    · rw [upd_ne (ne_of_none hb hp)]; exact s2.fr b o hb hm
    · rw [upd_ne (ne_of_none hb n1)]; exact s1.wd.sub b o hb
    · obtain ⟨c1, c2⟩ := s1.wd.dkc a g hd
      refine ⟨c1, T.loc ?_ ?_ c2⟩
      · exact (upd_ne (fun z => m (by rw [hd]; exact .inl z.symm))).symm
      · exact (upd_ne (fun z => m (by rw [hd]; exact .inr z.symm))).symm
  exact k _ _ HS1 _ pk st ⟨p, _, rfl, hp, m, n1, upd_same, .inl ⟨rfl, _, rfl, Kvr.merge kr .nil⟩⟩
theorem d_subX (hu : X.A.units + 1 < cLine) (ho : DX T X e tx) (hi : DE T X ix tk) (hs : NoSl ix := by exact fun _ _ => rfl) : DE T X (.Subscript e ix pos) (xSubX tx tk) :=
  ⟨PE.imp (pe_dget hu ho.pe hi.pe hs) fun σ H Q ⟨en, ρ, dk, HS, P, E, q, k⟩ => by
    refine ⟨en, ρ, dk, HS, _, E, q, fun s v HS1 H1 p st r => ?_⟩
    obtain ⟨t, kvs, rfl, p⟩ := p
    obtain ⟨a, o, rfl, hn, m, n, ha, dr⟩ := r
    refine ⟨en, ρ, dk, HS1, _, E.stp st, p, fun d2 v2 HS2 H2 p2 s2 r2 => ?_⟩
    obtain ⟨ok, d, hg, p2⟩ := p2
    obtain ⟨ov, g, rr⟩ := dct_get s2.wd (s2.fr a o ha m) (dr.same s2.sh) r2 ok
    rw [hg] at rr
    cases ov with
    | none => exact rr.elim
    | some w => exact ⟨a, w, rfl, g, k _ _ _ _ p2 (st.trans s2) rr⟩⟩
end
end DL

namespace SrtO
open PySem PySem.Spec PyProof.Rows PySem.W
section
variable {prog : Program} {w : World} {A : Around} {E : Value → Shared → Prop} {s : Shared} {κ : PyProof.Rows.KeyKind}
/-- sorted(t), t a tuple whose items can be sorted -/
theorem sorted_valsT {l : Addr} {vs : List Value} {Q : Value → Shared → Prop} (hl : s.heap.IsTuple l vs.toArray) (S : SortsAt prog w A.in1.in1 { s with heap := sortingHeap (copyHeap s.heap vs) (s.heap.objs.size + 1) vs } κ vs) (hL : vs.length ≤ sizeLine)
    (h : Q (.ref (s.heap.objs.size + 1)) { s with heap := sortedAll s.heap vs (sortVals κ false vs vs).toArray }) : wpAny (model prog w) A (call (.builtin "sorted") [.ref l]) Q E s := by
  refine Calls.call_function_entry kind_sorted plain_sorted entry_sorted (args_sorted1 _) ?_
  unfold Builtin.«sorted»
  refine wpAny_bind (m := checkCount "sorted" 1 1 _) (wpAny_pure ?_)
  refine wpAny_bind (SeqAt.collect_tupD hl hL ?_)
  refine wpAny_bind (wpAny_newList ?_ hL)
  have hsz : ((s.heap.push (seqObj "list" #[] 0)).update s.heap.objs.size (Obj.mapSeq (· ++ vs.toArray))).objs.size = s.heap.objs.size + 1 := by
    rw [Heap.size_update, size_push']
  show wpAny _ _ _ _ _ { s with heap := copyHeap s.heap vs }
  rw [hsz]
  refine wpAny_bind (wpAny_holding (wpAny_call_entry slot_list_sort ⟨_, copyHeap_at s.heap vs, rfl⟩ entry_list_sort (list_sort_vals (s := { s with heap := copyHeap s.heap vs }) (copyHeap_at s.heap vs) S hL ⟨_, rfl, ?_⟩) (args_list_sort _)))
  exact wpAny_pure ⟨_, rfl, h⟩
end
end SrtO
namespace DL
open PySem PySem.Spec PyProof.Rows L2 PySem.W
/-- what is sorted: data alike -/
def SrtOk (ds : List D) : Prop := AllAlike ds ∧ Sortable ds ∧ ∀ d ∈ ds, d.depth ≤ 20
def dLe (a b : D) : Bool := dataLe false (fun d : D => d) a b
theorem dLe_ints (xs ys : List Int) : dLe (.tuple (xs.map .int)) (.tuple (ys.map .int)) = decide (xs ≤ ys) := by
  show (!dataLt (.tuple (ys.map .int)) (.tuple (xs.map .int))) = _
  rw [dataLt_tuple]
  show (!rowLt (ys.map .int) (xs.map .int)) = _
  rw [dataLt_ints]
  by_cases h : ys < xs
  · have h' : ¬ xs ≤ ys := fun r => List.not_lt.mpr r h
    simp [h, h']
  · have h' : xs ≤ ys := List.not_lt.mp h
    simp [h, h']
theorem dLe_nD (l m : List Nat) : dLe (nD l) (nD m) = decide ((l.map fun (k : Nat) => (k : Int)) ≤ m.map fun (k : Nat) => (k : Int)) := by
  have e : ∀ l : List Nat, nD l = .tuple ((l.map fun (k : Nat) => (k : Int)).map .int) := fun l => by rw [List.map_map]; rfl
  rw [e l, e m, dLe_ints]
theorem alike_nats : ∀ l m : List Nat, alikeAll (l.map fun (k : Nat) => PyData.int (k : Int)) (m.map fun (k : Nat) => PyData.int (k : Int)) = true
  | [], _ => by simp [alikeAll]
  | _ :: _, [] => by simp [alikeAll]
  | x :: l, y :: m => by
    show alikeAll (PyData.int (x : Int) :: l.map fun (k : Nat) => PyData.int (k : Int)) (PyData.int (y : Int) :: m.map fun (k : Nat) => PyData.int (k : Int)) = true
    rw [alikeAll, alike_nats l m]
    simp [alike]
/-- rows of naturals can be sorted, none of them empty -/
theorem srt_nDs {L : List (List Nat)} (h : ∀ l ∈ L, l ≠ []) : SrtOk (L.map nD) := by
  refine ⟨fun d hd d' hd' => ?_, .inl fun d hd => ?_, fun d hd => ?_⟩
  · obtain ⟨l, _, rfl⟩ := List.mem_map.mp hd
    obtain ⟨m, _, rfl⟩ := List.mem_map.mp hd'
    show alike (.tuple _) (.tuple _) = true
    rw [alike]
    exact alike_nats l m
  · obtain ⟨l, hl, rfl⟩ := List.mem_map.mp hd
    cases l with
    | nil => exact absurd rfl (h _ hl)
    | cons x r => exact ⟨_, _, rfl⟩
  · obtain ⟨l, _, rfl⟩ := List.mem_map.mp hd
    exact Nat.le_trans (depth_nD l) (by decide)
section
variable {X : Cx}
theorem rvs_pairs {K : PySem.W.Frag} {HS : Hp} : ∀ {vs : List V} {ds : List D}, Rvs K HS vs ds → ∃ ps : List (V × D), ps.map (·.1) = vs ∧ ps.map (·.2) = ds ∧ ∀ p ∈ ps, Rv K HS p.1 p.2
  | _, _, .nil => ⟨[], rfl, rfl, fun p hp => absurd hp (by simp)⟩
  | _, _, .cons (v := v) (d := d) h t => by
    obtain ⟨ps, e1, e2, h3⟩ := rvs_pairs t
    refine ⟨(v, d) :: ps, by rw [List.map_cons, e1], by rw [List.map_cons, e2], fun p hp => ?_⟩
    rcases List.mem_cons.mp hp with rfl | hp
    · exact h
    · exact h3 p hp
theorem pairs_rvs {K : PySem.W.Frag} {HS : Hp} : ∀ {ps : List (V × D)}, (∀ p ∈ ps, Rv K HS p.1 p.2) → Rvs K HS (ps.map (·.1)) (ps.map (·.2))
  | [], _ => .nil
  | p :: ps, h => .cons (h p (List.mem_cons_self ..)) (pairs_rvs fun q hq => h q (List.mem_cons_of_mem _ hq))
theorem each_rel : ∀ {ps : List (V × D)} {us : List Value}, Vals (ps.map (·.1)) us → EachIs (fun v (b : V × D) => RelV b.1 v) us ps
  | [], _, r => by rw [List.map_nil] at r; cases r; exact .nil
  | p :: ps, _, r => by
    rw [List.map_cons] at r
    cases r with
    | cons h t => exact .cons h (each_rel t)
theorem vals_each : ∀ {ps : List (V × D)} {us : List Value}, EachIs (fun v (b : V × D) => RelV b.1 v) us ps → Vals (ps.map (·.1)) us
  | _, _, .nil => .nil
  | _, _, .cons h t => .cons h (vals_each t)
theorem each_reads {pins : List (Addr × Obj)} {σ : L2.St} {H HS : Hp} {s : Shared} (I : Inv X pins σ H s) (sub : Same HS H) : ∀ {ps : List (V × D)} {us : List Value}, (∀ p ∈ ps, Rv X.K HS p.1 p.2) → Vals (ps.map (·.1)) us → EachIs (fun v (b : V × D) => ∃ as, Reads s.heap v b.2 as) us ps
  | [], _, _, r => by rw [List.map_nil] at r; cases r; exact .nil
  | p :: ps, _, h, r => by
    rw [List.map_cons] at r
    cases r with
    | cons h1 t =>
      obtain ⟨as, hr, _⟩ := Rv.rds I p.2 p.1 _ (dp_same sub _ _ (h p (List.mem_cons_self ..))) h1
      exact .cons ⟨as, hr⟩ (each_reads I sub (fun q hq => h q (List.mem_cons_of_mem _ hq)) t)
/-- sorted(xs), xs a list or a tuple of data -/
def rSortD (K : PySem.W.Frag) : List V → Hp → VK → Prop := fun vs H Q => ∃ (a : Addr) (ps : List (V × D)) (HS : Hp), vs = [V.ref a] ∧ (SqL K H a (ps.map (·.1)) ∨ SqT K H a (ps.map (·.1))) ∧ Same HS H ∧ (∀ p ∈ ps, Rv K HS p.1 p.2) ∧ SrtOk (ps.map (·.2)) ∧
  ∀ (ps' : List (V × D)) (p : Addr), ps'.Perm ps → (ps'.map (·.2)).Pairwise (fun a b => dLe a b = true) → H p = none → Q (.ref p) (upd H p (.lst (ps'.map (·.1))))
theorem cr_sortD (hu : X.A.units + 64 < cLine) : CallR X (.builtin "sorted") (rSortD X.K) := by
  intro pins s σ H vs us Q I r h
  obtain ⟨a, ps, HS, rfl, hs, sub, hp, hok, q⟩ := h
  rw [Vals.ref1 r]
  have hro : ∀ d ∈ ps.map (·.2), X.A.units + 2 + d.depth < cLine := fun d hd => by
    have := hok.2.2 d hd
    omega
  have fin : ∀ (us2 : List Value), Vals (ps.map (·.1)) us2 → (ps.map (·.1)).length ≤ sizeLine → ∀ out : List Value, EachIs (fun v (b : V × D) => RelV b.1 v) out (ps.mergeSort (dataLe false (·.2))) → out.length = ps.length →
      ∃ v' H', Inv X pins σ H' { s with heap := sortedAll s.heap us2 out.toArray } ∧ RelV v' (.ref (s.heap.objs.size + 1)) ∧ Q v' H' := fun us2 rv hz out e el => by
    obtain ⟨ep, he'⟩ := PyProof.Rows.sortedAll_at s.heap us2 out.toArray
    have hl : ((ps.mergeSort (dataLe false (·.2))).map (·.1)).length ≤ sizeLine := by
      rw [List.length_map, List.length_mergeSort]
      rwa [List.length_map] at hz
    refine ⟨.ref _, upd H (s.heap.objs.size + 1) (.lst ((ps.mergeSort (dataLe false (·.2))).map (·.1))), I.laid (t' := s.toks) (fun _ _ => PyProof.Rows.sortedAll_old) (Nat.le_succ _) ⟨hl, out, ep, vals_each e, he'⟩, rfl, q _ _ (List.mergeSort_perm _ _) ?_ (I.hok.fresh (Nat.le_succ _))⟩
    rw [List.pairwise_map]
    exact sort_pairwise (sortLe_total (listOrd itemOrd) false (fun b : V × D => keyToks b.2)) ps
  rcases hs with hs | hs
  · obtain ⟨its, rv, hl, hz⟩ := I.list hs
    have er := each_reads I sub hp rv
    refine sorted_data (enc := fun b : V × D => b.2) (bs := ps) hl.isList (each_rel rv) er hok.1 hok.2.1 (by rwa [List.length_map] at hz) (fun b hb => hro _ (List.mem_map.mpr ⟨b, hb, rfl⟩)) fun out hlen e => ?_
    exact fin its rv hz out e hlen
  · obtain ⟨its, rv, hl, hz⟩ := I.tuple hs
    have er := each_reads I sub hp rv
    have er' : EachIs (fun v (b : V × D) => ∃ as, Reads (sortingHeap (copyHeap s.heap its) (s.heap.objs.size + 1) its) v b.2 as) its ps := er.mono fun _ _ ⟨as, r⟩ => ⟨as, PyProof.Rows.Reads.keeps (fun _ _ => sorting_copy_old) r⟩
    refine SrtO.sorted_valsT hl (SortsAt.data (s := { s with heap := sortingHeap (copyHeap s.heap its) (s.heap.objs.size + 1) its }) (each_map (R := fun v d => ∃ as, Reads (sortingHeap (copyHeap s.heap its) (s.heap.objs.size + 1) its) v d as) (fun b : V × D => b.2) er') hok.1 hok.2.1 (fun d hd => hro d hd)) (by rw [← rv.length]; exact hz) ?_
    exact fin its rv hz _ (sortVals_data (R := fun v (b : V × D) => RelV b.1 v) false (each_rel rv) er' hok.1) (by rw [sortVals_length false rfl, ← rv.length, List.length_map])
end
def xSortA (ta : DT D) : DT (List D) := fun ρ P => ta ρ fun d => ∃ ds, (d = .list ds ∨ d = .tuple ds) ∧ SrtOk ds ∧ ∀ ds' : List D, ds'.Perm ds → ds'.Pairwise (fun a b => dLe a b = true) → P ds'
section
variable {T : DKd} {X : Cx} {e : Expr} {ta : DT D} {pos p : Pos}
theorem df_sortA (hu : X.A.units + 64 < cLine) (hg : Gl X "sorted") (hm : X.mg "sorted" = none) (ha : DR T X e ta) (he : starEach [e] X.env = (false, eval e X.env) :: starEach [] X.env := by rfl) : DF T X (.Call (.Name "sorted" p) [e] [] pos) (xSortA ta) :=
  ⟨PE.imp (pe_callB (cr_sortD hu) hg hm (by decide +kernel) (pa_cons ha.pe pa_nil he) (by decide) (by decide) he) fun σ H Q h => by
    obtain ⟨en, ρ, dk, HS, P, E, q, k⟩ := h
    refine ⟨en, ρ, dk, HS, _, E, q, fun d v HS1 H1 p s r => ?_⟩
    obtain ⟨ds, hd, ok, p⟩ := p
    have go : ∀ (a : Addr) (vs : List V), v = .ref a → (SqL X.K H1 a vs ∨ SqT X.K H1 a vs) → Rvs X.K HS1 vs ds → rSortD X.K [v] H1 Q := fun a vs ev hs q1 => by
      obtain ⟨ps, e1, e2, hp⟩ := rvs_pairs q1
      subst e1 e2 ev
      refine ⟨a, ps, HS1, rfl, hs, s.wd.sub, hp, ok, fun ps' l pm pw hl => ?_⟩
      have hp' : ∀ z ∈ ps', Rv X.K HS1 z.1 z.2 := fun z hz => hp z (pm.mem_iff.mp hz)
      obtain ⟨s2, rv⟩ := new_own s hl (s.back hl) (pairs_rvs hp')
      exact k _ _ _ _ (p _ (pm.map _) pw) s2 rv
    rcases hd with rfl | rfl
    · obtain ⟨a, vs, rfl, h1, q1⟩ := r.lst s.wd
      exact go a vs rfl (.inl (SqL.of h1)) q1
    · obtain ⟨a, vs, rfl, _, h1, q1⟩ := r.tup s.wd
      exact go a vs rfl (.inr h1) q1⟩
end
end DL

namespace DL
open PySem PySem.Spec PyProof.Rows L2
/-! ### xs[k] = ys.pop(), xs[ys.pop()] = v, xs[a], ys[b] = v, w: dicts of one's own -/
def rSetD : V → V → V → Hp → (Hp → Prop) → Prop := fun o i v H Q => ∃ p H', o = .ref p ∧ DPut H p i v H' ∧ Q H'
theorem set_dict {X : Cx} (hu : X.A.units + 1 < cLine) : PSet X rSetD := by
  intro pins s σ H o i v ov iv u Q I ro ri rv h
  obtain ⟨p, H', rfl, g, q⟩ := h
  cases ro
  exact d_setItem hu I g ri rv fun s' I' => ⟨H', I', q⟩
def yDPut2 (i j : Nat) (tv t1 t2 : DT D) : DTS := fun P ρ => tv ρ fun d => ∃ a b, d = .tuple [a, b] ∧ ∃ t kvs, sl ρ i = .dct t kvs ∧ t1 ρ fun k => okKey t k ∧ kvs.length < sizeLine ∧
  ∃ t' lvs, sl (ρ.set i (.dct t (putD kvs k a))) j = .dct t' lvs ∧ t2 (ρ.set i (.dct t (putD kvs k a))) fun k2 => okKey t' k2 ∧ lvs.length < sizeLine ∧ P.nx ((ρ.set i (.dct t (putD kvs k a))).set j (.dct t' (putD lvs k2 b)))
theorem ds_dput2 (i j : Nat) {T : DKd} {X : Cx} {e ix1 ix2 : Expr} {tv t1 t2 : DT D} {x1 x2 : Str} {p1 p2 p3 p4 pt pos : Pos} {kt : Nat} (hu : X.A.units + 1 < cLine) (hv : DE T X e tv) (ho1 : PE X (.Name x1 p1) (tVar i)) (hi1 : DE T X ix1 t1) (ho2 : PE X (.Name x2 p3) (tVar j)) (hi2 : DE T X ix2 t2) (hc : X.calm = true := by rfl)
    (ha1 : ∀ v, assign (.Subscript (.Name x1 p1) ix1 p2) X.env v = (do
      let ov ← holding [v] (eval (.Name x1 p1) X.env)
      let iv ← holding [v, ov] (eval ix1 X.env)
      standAt p2
      holding [v, ov, iv] (setItem ov iv v)
      release [v, ov, iv] []) := by intro _; rfl)
    (ha2 : ∀ v, assign (.Subscript (.Name x2 p3) ix2 p4) X.env v = (do
      let ov ← holding [v] (eval (.Name x2 p3) X.env)
      let iv ← holding [v, ov] (eval ix2 X.env)
      standAt p4
      holding [v, ov, iv] (setItem ov iv v)
      release [v, ov, iv] []) := by intro _; rfl)
    (hs1 : (assignEach [.Subscript (.Name x1 p1) ix1 p2, .Subscript (.Name x2 p3) ix2 p4] X.env).map (·.2) = assign (.Subscript (.Name x1 p1) ix1 p2) X.env :: (assignEach [.Subscript (.Name x2 p3) ix2 p4] X.env).map (·.2) := by rfl)
    (hs2 : (assignEach [.Subscript (.Name x2 p3) ix2 p4] X.env).map (·.2) = assign (.Subscript (.Name x2 p3) ix2 p4) X.env :: (assignEach [] X.env).map (·.2) := by rfl)
    (hn : (assignEach [.Subscript (.Name x1 p1) ix1 p2, .Subscript (.Name x2 p3) ix2 p4] X.env).length = 2 := by rfl) (hst : (assignEach [.Subscript (.Name x1 p1) ix1 p2, .Subscript (.Name x2 p3) ix2 p4] X.env).findIdx? (·.1) = none := by rfl)
    (hs : swapsWithSole [.Tuple [.Subscript (.Name x1 p1) ix1 p2, .Subscript (.Name x2 p3) ix2 p4] kt pt] e pos.line X.env = pure false := by rfl) (hw : swappedStores [.Tuple [.Subscript (.Name x1 p1) ix1 p2, .Subscript (.Name x2 p3) ix2 p4] kt pt] e X.env = pure none := by rfl)
    (h1 : (assignEach [.Tuple [.Subscript (.Name x1 p1) ix1 p2, .Subscript (.Name x2 p3) ix2 p4] kt pt] X.env).map (·.2) = [assign (.Tuple [.Subscript (.Name x1 p1) ix1 p2, .Subscript (.Name x2 p3) ix2 p4] kt pt) X.env] := by rfl) :
    DS T X (.Assign [.Tuple [.Subscript (.Name x1 p1) ix1 p2, .Subscript (.Name x2 p3) ix2 p4] kt pt] e pos) (yDPut2 i j tv t1 t2) :=
  ⟨PS.imp (ps_asg hv.pe (pg_tup hc (pgs_cons (pg_sub ho1 hi1.pe (set_dict hu) ha1) (pgs_cons (pg_sub ho2 hi2.pe (set_dict hu) ha2) pgs_nil hs2) hs1) hn hst) hs hw h1) fun De σ H ⟨en, ρ, dk, HS, P, x⟩ => by
    refine ⟨en, ρ, dk, HS, _, x.env, x.does, fun d v HS1 H1 pd s r => ?_⟩
    obtain ⟨a, b, rfl, t, kvs, hd, q⟩ := pd
    have E1 := x.env.stp s
    cases r with
    | tup ht r =>
    cases r with
    | cons ra r =>
    cases r with
    | cons rb r =>
    cases r
    refine ⟨_, _, rfl, SqT.of (E1.wd.sub _ _ ht), rfl, _, _, rfl, ?_⟩
    obtain ⟨p, o, h0, h1, m, n, h2, qv, f⟩ := E1.dctAt hd
    refine ⟨_, h1, en, ρ, dk, HS1, _, E1, q, fun d2 v2 HS2 H2 pd2 s2 r2 => ?_⟩
    have E2 := E1.stp s2
    obtain ⟨p', o', h0', h1', m', n', h2', qv', f'⟩ := E2.dctAt hd
    rw [h1] at h1'
    cases h1'
    obtain ⟨ok, hl, t', lvs, he, q2⟩ := pd2
    obtain ⟨o2, g, dq⟩ := dct_put E2.wd h2' qv' r2 (dp_same s2.sh _ _ ra) ok hl
    refine ⟨p, _, rfl, g, ?_⟩
    have E3 := E2.mutD h0' h1 m' n' f' dq
    obtain ⟨p5, o5, g0, g1, gm, gn, g2, gv, gf⟩ := E3.dctAt he
    refine ⟨_, _, rfl, _, g1, en, _, dk, HS2, _, E3, q2, fun d6 v6 HS6 H6 pd6 s6 r6 => ?_⟩
    have E6 := E3.stp s6
    obtain ⟨p7, o7, k0, k1, km, kn, k2, kv, kf⟩ := E6.dctAt he
    rw [g1] at k1
    cases k1
    obtain ⟨ok2, hl2, pn⟩ := pd6
    obtain ⟨o8, g8, dq8⟩ := dct_put E6.wd k2 kv r6 (dp_same s6.sh _ _ (dp_same s2.sh _ _ rb)) ok2 hl2
    refine ⟨p5, _, rfl, g8, rfl, ?_⟩
    exact x.nx _ dk HS6 _ _ pn (E6.mutD k0 g1 km kn kf dq8)⟩
def yDPutPop (i j : Nat) (tv : DT D) : DTS := fun P ρ => tv ρ fun d => ∃ t kvs, sl ρ i = .dct t kvs ∧ ∃ ds k, sl ρ j = .own ds ∧ ds.getLast? = some k ∧ okKey t k ∧ kvs.length < sizeLine ∧ P.nx ((ρ.set j (.own ds.dropLast)).set i (.dct t (putD kvs k d)))
theorem ds_dputPop (i j : Nat) {T : DKd} {X : Cx} {e ix : Expr} {tv : DT D} {x1 : Str} {p1 p2 pos : Pos} (hij : i ≠ j) (hu : X.A.units + 1 < cLine) (hv : DE T X e tv) (ho : PE X (.Name x1 p1) (tVar i)) (hi : PE X ix (tBM0 X.K "list" rPop (tVar j))) (hs : swapsWith e (some (.Subscript (.Name x1 p1) ix p2)) pos.line X.env = pure false := by rfl) :
    DS T X (.Assign [.Subscript (.Name x1 p1) ix p2] e pos) (yDPutPop i j tv) :=
  ⟨PS.imp (ps_dput hu ho hi hv.pe hs) fun De σ H ⟨en, ρ, dk, HS, P, x⟩ => by
    refine ⟨en, ρ, dk, HS, _, x.env, x.does, fun d v HS1 H1 pd s r => ?_⟩
    obtain ⟨t, kvs, hd, ds, k, hl, hk, ok, hz, q⟩ := pd
    have E1 := x.env.stp s
    obtain ⟨p, o, h0, h1, m, n, h2, qv, f⟩ := E1.dctAt hd
    refine ⟨_, h1, ?_⟩
    obtain ⟨p', vs, g0, g1, gm, gn, g2, gv, gf⟩ := E1.ownAt hl
    obtain ⟨y, hy, ry⟩ := pop_get gv hk
    refine ⟨_, g1, .inl ⟨rfl, vs, SqL.of g2⟩, p', vs, y, rfl, rfl, g2, hy, ?_⟩
    have E2 := E1.mut g0 g1 gm gn gf gv.dropL
    obtain ⟨p5, o5, k0, k1, km, kn, k2, kv, kf⟩ := E2.dctAt (show sl (ρ.set j (.own ds.dropLast)) i = .dct t kvs by rw [sl_stay (fun z => hij z.symm)]; exact hd)
    rw [h1] at k1
    cases k1
    obtain ⟨o2, g, dq⟩ := dct_put E2.wd k2 kv ry r ok hz
    exact ⟨p, _, rfl, g, x.nx _ dk HS1 _ _ q (E2.mutD k0 h1 km kn kf dq)⟩⟩
/-! ### dicts told by their keys -/
/-- a dict that holds just these keys -/
def Hold {α : Type} (f : α → D) (kvs : List (D × D)) (l : List α) : Prop := kvs.length ≤ l.length ∧ ∀ a, (getD kvs (f a)).isSome = true ↔ a ∈ l
theorem hold_nil {α : Type} (f : α → D) : Hold f [] [] := ⟨Nat.le_refl _, fun a => ⟨fun h => (by cases h), fun h => (by cases h)⟩⟩
theorem hold_put {α : Type} {f : α → D} (hf : ∀ a b, f a = f b → a = b) {kvs : List (D × D)} {l : List α} (h : Hold f kvs l) (a : α) (v : D) : Hold f (putD kvs (f a) v) (a :: l) := by
  refine ⟨?_, fun b => ?_⟩
  · have := putD_len kvs (f a) v
    have := h.1
    rw [List.length_cons]
    omega
  · by_cases e : b = a
    · subst e
      rw [getD_same]
      exact ⟨fun _ => List.mem_cons_self .., fun _ => rfl⟩
    · rw [getD_other fun z => e (hf _ _ z), h.2 b, List.mem_cons]
      exact ⟨.inr, fun z => z.resolve_left e⟩
theorem Hold.perm {α : Type} {f : α → D} {kvs : List (D × D)} {l m : List α} (h : Hold f kvs l) (p : l.Perm m) : Hold f kvs m := ⟨by rw [← p.length_eq]; exact h.1, fun a => (h.2 a).trans p.mem_iff⟩
theorem hold_some {α : Type} {f : α → D} {kvs : List (D × D)} {l : List α} (h : Hold f kvs l) (a : α) [Decidable (a ∈ l)] : (getD kvs (f a)).isSome = decide (a ∈ l) := by
  by_cases c : a ∈ l
  · rw [decide_eq_true c]; exact (h.2 a).mpr c
  · rw [decide_eq_false c]
    cases e : (getD kvs (f a)).isSome with
    | false => rfl
    | true => exact absurd ((h.2 a).mp e) c
def kN (k : Nat) : D := .int (k : Int)
theorem kN_inj (a b : Nat) (h : kN a = kN b) : a = b := by
  have h' : PyData.int (a : Int) = .int (b : Int) := h
  injection h' with h'
  omega
theorem cNotIn_nats (x : Nat) (l : List Nat) : cNotIn (.int (x : Int)) (.list (l.map fun (k : Nat) => PyData.int (k : Int))) = some (!l.contains x) := by
  unfold cNotIn
  rw [if_pos ⟨rfl, okD_nats l⟩]
  show some (!memD _ _) = _
  rw [memD_nats]
end DL

namespace EZ
open PySem PySem.Spec PyProof.Rows L2
open PySem.Sem (wp)
/-! ### enumerate(zip(one, other)) of two tuples -/
/-- a zip, however its own tuple stands -/
abbrev ZF (h : Heap) (z TI TO : Addr) (f0 : Value) (f1 : Bool) : Prop :=
  h.get? z = some { cls := .type "zip", data := .fields #[f0, .bool f1, .bool false, .ref TI, .ref TO] }
def F0 (f0 : Value) : Prop := f0 = .none ∨ ∃ T : Nat, f0 = rawInt (T : Int)
section
variable {prog : Program} {w : World} {A : Around} {E : Value → Shared → Prop} {s : Shared}
theorem lia {a : Addr} {Q : Option Obj → Shared → Prop} (h : Q (s.heap.get? a) s) : wpAny (model prog w) A (loadIfAlive a) Q E s := fun Γ p hΓ => by
  unfold loadIfAlive
  rw [Sem.wp_loadIfAlive]
  exact h
theorem owned {z TI TO : Addr} {f0 : Value} {f1 : Bool} {Q : Bool → Shared → Prop} (hz : ZF s.heap z TI TO f0 f1) (h0 : F0 f0) (hT : Q true s)
    (hF : ∀ h' g1, ZF h' z TI TO f0 g1 → Heap.ExtBut z s.heap h' → h'.objs.size = s.heap.objs.size → Q false { s with heap := h' }) :
    wpAny (model prog w) A (Builtin.SmallTypes.ownedTupleIsFree (.ref z)) Q E s := by
  unfold Builtin.SmallTypes.ownedTupleIsFree
  refine wpAny_bind (wpAny_field hz rfl (x := f0) rfl ?_)
  rcases h0 with rfl | ⟨T, rfl⟩
  · exact wpAny_pure hT
  · show wpAny _ _ (loadIfAlive _ >>= _) _ _ _
    refine wpAny_bind (lia ?_)
    cases hg : s.heap.get? ((T : Int)).toNat with
    | none => exact wpAny_pure hT
    | some o =>
      show wpAny _ _ (field (.ref z) 1 >>= _) _ _ _
      refine wpAny_bind (wpAny_field hz rfl (x := .bool f1) rfl ?_)
      cases f1
      · show wpAny _ _ (setField (.ref z) 1 (.bool true) >>= _) _ _ _
        refine wpAny_bind (wpAny_setField_rec hz (by simp) fun g1 Z1 S1 => wpAny_pure ?_)
        exact hF g1 true Z1 S1.extBut S1.1
      · exact wpAny_pure (hF s.heap true hz (fun _ _ _ h => h) rfl)
/-- all but the four places of a zip stay -/
def Kept4 (z TO i1 i2 : Addr) (h h' : Heap) : Prop := ∀ c o, c ≠ z → c ≠ TO → c ≠ i1 → c ≠ i2 → h.get? c = some o → h'.get? c = some o
variable {z TI TO i1 i2 l1 l2 : Addr} {k1 k2 : Nat} {xs ys : Array Value} {x y u v f0 : Value} {f1 : Bool}
theorem next_item {Q : Value → Shared → Prop} (D : ZipApart z TI TO i1 i2 l1 l2) (hz : ZF s.heap z TI TO f0 f1) (h0 : F0 f0) (hTI : IsPair s.heap TI (.ref i1) (.ref i2)) (hTO : IsPair s.heap TO u v)
    (h1 : s.heap.IsTupleIter i1 l1 k1) (h2 : s.heap.IsTupleIter i2 l2 k2) (hl1 : s.heap.IsTuple l1 xs) (hl2 : s.heap.IsTuple l2 ys) (hx : xs[k1]? = some x) (hy : ys[k2]? = some y)
    (hQ : ∀ h', (∃ f0 f1, ZF h' z TI TO f0 f1 ∧ F0 f0) → (∃ u v, IsPair h' TO u v) → h'.IsTupleIter i1 l1 (k1 + 1) → h'.IsTupleIter i2 l2 (k2 + 1) → IsPair h' s.heap.objs.size x y → Kept4 z TO i1 i2 s.heap h' → h'.objs.size = s.heap.objs.size + 1 → Q (.ref s.heap.objs.size) { s with heap := h' }) :
    wpAny (model prog w) A (Builtin.«zip.__next__» ⟨[.ref z], []⟩) (fun fin s' => ∃ v, fin = .done (.ret v) ∧ Q v s') E s := by
  show wpAny _ _ (field (.ref z) 2 >>= _) _ _ _
  refine wpAny_bind (wpAny_field hz rfl (x := .bool false) rfl ?_)
  show wpAny _ _ (field (.ref z) 3 >>= _) _ _ _
  refine wpAny_bind (wpAny_field hz rfl (x := .ref TI) rfl (wpAny_bind (wpAny_seqItems hTI rfl ?_)))
  show wpAny _ _ (Builtin.SmallTypes.ownedTupleIsFree (.ref z) >>= _) _ _ _
  refine wpAny_bind (owned hz h0 ?_ ?_)
  · simp only [if_true]
    refine wpAny_bind (wpAny_rule (wpAny_bind (wpAny_field hz rfl (x := .ref TO) rfl (wpAny_bind (wpAny_setField_rec hz (by simp) fun g1 Z1 S1 => ?_)))))
    replace Z1 : ZF g1 z TI TO .ellipsis f1 := Z1
    have X1 := S1.extBut
    refine wpAny_bind ?_
    simp only [List.zipIdx_cons, List.zipIdx_nil, List.forIn_cons, List.forIn_nil]
    refine wpAny_bind (wpAny_bind (wpAny_onRaise ?_))
    show wpAny _ _ (Builtin.SmallTypes.nextOf (.ref i1) >>= _) _ _ _
    refine wpAny_bind (wpAny_nextOf_tuple_item (Heap.IsTupleIter.at h1 fun o q => X1 _ _ D.i1z q) (Heap.IsTuple.extBut hl1 X1 D.l1z) hx fun g2 A2 S2 => wpAny_pure ?_)
    have X2 := S2.extBut
    have P2 : IsPair g2 TO u v := X2 _ _ D.TOi1 (X1 _ _ D.TOz hTO)
    refine wpAny_bind (wpAny_seqItems P2 rfl (wpAny_bind (wpAny_updateSeq_pair P2 fun g3 P3 S3 => ?_)))
    replace P3 : IsPair g3 TO x v := P3
    have X3 := S3.extBut
    refine wpAny_bind (wpAny_letGo (wpAny_pure (wpAny_bind (wpAny_bind (wpAny_onRaise ?_)))))
    show wpAny _ _ (Builtin.SmallTypes.nextOf (.ref i2) >>= _) _ _ _
    refine wpAny_bind (wpAny_nextOf_tuple_item (Heap.IsTupleIter.at h2 fun o q => X3 _ _ D.TOi2.symm (X2 _ _ D.i12.symm (X1 _ _ D.i2z q))) (Heap.IsTuple.extBut (Heap.IsTuple.extBut (Heap.IsTuple.extBut hl2 X1 D.l2z) X2 D.l2i1) X3 D.l2TO) hy fun g4 A4 S4 => wpAny_pure ?_)
    have X4 := S4.extBut
    have P4 : IsPair g4 TO x v := X4 _ _ D.TOi2 P3
    refine wpAny_bind (wpAny_seqItems P4 rfl (wpAny_bind (wpAny_updateSeq_pair P4 fun g5 P5 S5 => ?_)))
    replace P5 : IsPair g5 TO x y := P5
    have X5 := S5.extBut
    refine wpAny_bind (wpAny_letGo (wpAny_pure (wpAny_pure (wpAny_bind (wpAny_seqItems P5 rfl (wpAny_bind (wpAny_newTuple ?_)))))))
    have sz : g5.objs.size = s.heap.objs.size := S5.1.trans (S4.1.trans (S3.1.trans (S2.1.trans S1.1)))
    have Z5 : ZF g5 z TI TO .ellipsis f1 := X5 _ _ D.TOz.symm (X4 _ _ D.i2z.symm (X3 _ _ D.TOz.symm (X2 _ _ D.i1z.symm Z1)))
    have K5 : Kept4 z TO i1 i2 s.heap g5 := fun c o c1 c2 c3 c4 e => X5 _ _ c2 (X4 _ _ c4 (X3 _ _ c2 (X2 _ _ c3 (X1 _ _ c1 e))))
    have A5 : g5.IsTupleIter i1 l1 (k1 + 1) := A2.at fun o q => X5 _ _ D.TOi1.symm (X4 _ _ D.i12 (X3 _ _ D.TOi1.symm q))
    have B5 : g5.IsTupleIter i2 l2 (k2 + 1) := A4.at fun o q => X5 _ _ D.TOi2.symm q
    have zl : z < g5.objs.size := Heap.lt_size Z5
    show wpAny _ _ (Builtin.SmallTypes.ownedTupleHandOut (.ref z) (.ref g5.objs.size) >>= _) _ _ _
    refine wpAny_bind ?_
    unfold Builtin.SmallTypes.ownedTupleHandOut
    have Z6 : ZF (g5.push { cls := .type "tuple", data := .seq #[x, y] }) z TI TO .ellipsis f1 := Heap.get?_push_of_some _ Z5
    refine wpAny_bind (wpAny_setField_rec Z6 (by simp) fun g7 Z7 S7 => ?_)
    replace Z7 : ZF g7 z TI TO (rawInt g5.objs.size) f1 := Z7
    refine wpAny_setField_rec Z7 (by simp) fun g8 Z8 S8 => ?_
    replace Z8 : ZF g8 z TI TO (rawInt g5.objs.size) false := Z8
    have up : ∀ c o, c ≠ z → g5.get? c = some o → g8.get? c = some o := fun c o c1 e => S8.extBut _ _ c1 (S7.extBut _ _ c1 (Heap.get?_push_of_some _ e))
    have T8 : IsPair g8 g5.objs.size x y := S8.extBut _ _ (Nat.ne_of_gt zl) (S7.extBut _ _ (Nat.ne_of_gt zl) (Heap.get?_push_size _ rfl))
    have sz8 : g8.objs.size = s.heap.objs.size + 1 := S8.1.trans (S7.1.trans ((Heap.size_push ..).trans (by rw [sz])))
    rw [sz] at T8
    refine wpAny_pure ⟨_, rfl, ?_⟩
    show Q (.ref g5.objs.size) _
    rw [sz]
    exact hQ g8 ⟨_, _, Z8, .inr ⟨_, rfl⟩⟩ ⟨_, _, up _ _ D.TOz P5⟩ (A5.at fun o e => up _ o D.i1z e) (B5.at fun o e => up _ o D.i2z e) T8 (fun c o c1 c2 c3 c4 e => up c o c1 (K5 c o c1 c2 c3 c4 e)) sz8
  · intro g1 t1 Z1 X1 s1
    simp only [Bool.false_eq_true, if_false]
    rw [← Array.forIn_toList]
    simp only [List.forIn_cons, List.forIn_nil]
    refine wpAny_bind (wpAny_bind (wpAny_bind (wpAny_holding ?_)))
    show wpAny _ _ (Builtin.SmallTypes.nextOf (.ref i1) >>= _) _ _ _
    refine wpAny_bind (wpAny_nextOf_tuple_item (Heap.IsTupleIter.at h1 fun o q => X1 _ _ D.i1z q) (Heap.IsTuple.extBut hl1 X1 D.l1z) hx fun g2 A2 S2 => wpAny_pure ?_)
    have X2 := S2.extBut
    refine wpAny_pure (wpAny_bind (wpAny_bind (wpAny_holding ?_)))
    show wpAny _ _ (Builtin.SmallTypes.nextOf (.ref i2) >>= _) _ _ _
    refine wpAny_bind (wpAny_nextOf_tuple_item (Heap.IsTupleIter.at h2 fun o q => X2 _ _ D.i12.symm (X1 _ _ D.i2z q)) (Heap.IsTuple.extBut (Heap.IsTuple.extBut hl2 X1 D.l2z) X2 D.l2i1) hy fun g4 A4 S4 => wpAny_pure ?_)
    have X4 := S4.extBut
    refine wpAny_pure (wpAny_pure (wpAny_bind (wpAny_newTuple ?_ (show 2 ≤ sizeLine by decide))))
    have sz : g4.objs.size = s.heap.objs.size := S4.1.trans (S2.1.trans s1)
    have up : ∀ c o, c ≠ z → c ≠ i1 → c ≠ i2 → s.heap.get? c = some o → (g4.push { cls := .type "tuple", data := .seq #[x, y] }).get? c = some o := fun c o c1 c2 c3 e => Heap.get?_push_of_some _ (X4 _ _ c3 (X2 _ _ c2 (X1 _ _ c1 e)))
    have T8 : IsPair (g4.push { cls := .type "tuple", data := .seq #[x, y] }) g4.objs.size x y := Heap.get?_push_size _ rfl
    rw [sz] at T8
    refine wpAny_pure ⟨_, rfl, ?_⟩
    show Q (.ref g4.objs.size) _
    rw [sz]
    exact hQ _ ⟨f0, t1, Heap.get?_push_of_some _ (X4 _ _ D.i2z.symm (X2 _ _ D.i1z.symm Z1)), h0⟩ ⟨u, v, up _ _ D.TOz D.TOi1 D.TOi2 hTO⟩ ((A2.at fun o q => X4 _ _ D.i12 q).at fun o q => Heap.get?_push_of_some _ q) (A4.at fun o q => Heap.get?_push_of_some _ q) T8 (fun c o c1 c2 c3 c4 e => up c o c1 c3 c4 e) ((Heap.size_push ..).trans (by rw [sz]))
theorem next_end {Q : Fin → Shared → Prop} (hh : A.handled = none) (D : ZipApart z TI TO i1 i2 l1 l2) (hz : ZF s.heap z TI TO f0 f1) (h0 : F0 f0) (hTI : IsPair s.heap TI (.ref i1) (.ref i2)) (hTO : IsPair s.heap TO u v)
    (h1 : s.heap.IsTupleIter i1 l1 k1) (h2 : s.heap.IsTupleIter i2 l2 k2) (hl1 : s.heap.IsTuple l1 xs) (hl2 : s.heap.IsTuple l2 ys) (hend : xs[k1]? = none ∨ ys[k2]? = none)
    (hE : ∀ h' e, Kept4 z TO i1 i2 s.heap h' → (∃ o, h'.get? e = some o ∧ o.cls = .type "StopIteration") → E (.ref e) { s with heap := h' }) :
    wpAny (model prog w) A (Builtin.«zip.__next__» ⟨[.ref z], []⟩) Q E s := by
  show wpAny _ _ (field (.ref z) 2 >>= _) _ _ _
  refine wpAny_bind (wpAny_field hz rfl (x := .bool false) rfl ?_)
  show wpAny _ _ (field (.ref z) 3 >>= _) _ _ _
  refine wpAny_bind (wpAny_field hz rfl (x := .ref TI) rfl (wpAny_bind (wpAny_seqItems hTI rfl ?_)))
  show wpAny _ _ (Builtin.SmallTypes.ownedTupleIsFree (.ref z) >>= _) _ _ _
  refine wpAny_bind (owned hz h0 ?_ ?_)
  · simp only [if_true]
    refine wpAny_bind (wpAny_rule (wpAny_bind (wpAny_field hz rfl (x := .ref TO) rfl (wpAny_bind (wpAny_setField_rec hz (by simp) fun g1 Z1 S1 => ?_)))))
    replace Z1 : ZF g1 z TI TO .ellipsis f1 := Z1
    have X1 := S1.extBut
    refine wpAny_bind ?_
    simp only [List.zipIdx_cons, List.zipIdx_nil, List.forIn_cons, List.forIn_nil]
    refine wpAny_bind (wpAny_bind (wpAny_onRaise ?_))
    show wpAny _ _ (Builtin.SmallTypes.nextOf (.ref i1) >>= _) _ _ _
    cases hx : xs[k1]? with
    | none =>
      refine wpAny_bind (wpAny_nextOf_tuple_end hh (Heap.IsTupleIter.at h1 fun o q => X1 _ _ D.i1z q) (Heap.IsTuple.extBut hl1 X1 D.l1z) hx fun g2 e X2 he => ?_)
      obtain ⟨oe, hoe, hce⟩ := he
      have Z2 : ZF g2 z TI TO .ellipsis f1 := X2 _ _ D.i1z.symm Z1
      have ne : e ≠ z := fun w => by subst w; rw [Z2] at hoe; cases hoe; simp at hce
      exact wpAny_setField_rec Z2 (by simp) fun g3 _ S3 => hE g3 e (fun c o c1 _ c3 _ w => S3.extBut _ _ c1 (X2 _ _ c3 (X1 _ _ c1 w))) ⟨oe, S3.extBut _ _ ne hoe, hce⟩
    | some x =>
      have hy : ys[k2]? = none := hend.resolve_left fun w => by rw [hx] at w; cases w
      refine wpAny_bind (wpAny_nextOf_tuple_item (Heap.IsTupleIter.at h1 fun o q => X1 _ _ D.i1z q) (Heap.IsTuple.extBut hl1 X1 D.l1z) hx fun g2 A2 S2 => wpAny_pure ?_)
      have X2 := S2.extBut
      have P2 : IsPair g2 TO u v := X2 _ _ D.TOi1 (X1 _ _ D.TOz hTO)
      refine wpAny_bind (wpAny_seqItems P2 rfl (wpAny_bind (wpAny_updateSeq_pair P2 fun g3 P3 S3 => ?_)))
      have X3 := S3.extBut
      refine wpAny_bind (wpAny_letGo (wpAny_pure (wpAny_bind (wpAny_bind (wpAny_onRaise ?_)))))
      show wpAny _ _ (Builtin.SmallTypes.nextOf (.ref i2) >>= _) _ _ _
      refine wpAny_bind (wpAny_nextOf_tuple_end hh (Heap.IsTupleIter.at h2 fun o q => X3 _ _ D.TOi2.symm (X2 _ _ D.i12.symm (X1 _ _ D.i2z q))) (Heap.IsTuple.extBut (Heap.IsTuple.extBut (Heap.IsTuple.extBut hl2 X1 D.l2z) X2 D.l2i1) X3 D.l2TO) hy fun g4 e X4 he => ?_)
      obtain ⟨oe, hoe, hce⟩ := he
      have Z4 : ZF g4 z TI TO .ellipsis f1 := X4 _ _ D.i2z.symm (X3 _ _ D.TOz.symm (X2 _ _ D.i1z.symm Z1))
      have ne : e ≠ z := fun w => by subst w; rw [Z4] at hoe; cases hoe; simp at hce
      exact wpAny_setField_rec Z4 (by simp) fun g5 _ S5 => hE g5 e (fun c o c1 c2 c3 c4 w => S5.extBut _ _ c1 (X4 _ _ c4 (X3 _ _ c2 (X2 _ _ c3 (X1 _ _ c1 w))))) ⟨oe, S5.extBut _ _ ne hoe, hce⟩
  · intro g1 t1 Z1 X1 s1
    simp only [Bool.false_eq_true, if_false]
    rw [← Array.forIn_toList]
    simp only [List.forIn_cons, List.forIn_nil]
    refine wpAny_bind (wpAny_bind (wpAny_bind (wpAny_holding ?_)))
    show wpAny _ _ (Builtin.SmallTypes.nextOf (.ref i1) >>= _) _ _ _
    cases hx : xs[k1]? with
    | none =>
      exact wpAny_bind (wpAny_nextOf_tuple_end hh (Heap.IsTupleIter.at h1 fun o q => X1 _ _ D.i1z q) (Heap.IsTuple.extBut hl1 X1 D.l1z) hx fun g2 e X2 he => hE g2 e (fun c o c1 _ c3 _ w => X2 _ _ c3 (X1 _ _ c1 w)) he)
    | some x =>
      have hy : ys[k2]? = none := hend.resolve_left fun w => by rw [hx] at w; cases w
      refine wpAny_bind (wpAny_nextOf_tuple_item (Heap.IsTupleIter.at h1 fun o q => X1 _ _ D.i1z q) (Heap.IsTuple.extBut hl1 X1 D.l1z) hx fun g2 A2 S2 => wpAny_pure ?_)
      have X2 := S2.extBut
      refine wpAny_pure (wpAny_bind (wpAny_bind (wpAny_holding ?_)))
      show wpAny _ _ (Builtin.SmallTypes.nextOf (.ref i2) >>= _) _ _ _
      exact wpAny_bind (wpAny_nextOf_tuple_end hh (Heap.IsTupleIter.at h2 fun o q => X2 _ _ D.i12.symm (X1 _ _ D.i2z q)) (Heap.IsTuple.extBut (Heap.IsTuple.extBut hl2 X1 D.l2z) X2 D.l2i1) hy fun g4 e X4 he => hE g4 e (fun c o c1 _ c3 c4 w => X4 _ _ c4 (X2 _ _ c3 (X1 _ _ c1 w))) he)
theorem nextOf_item {Q : Value → Shared → Prop} (D : ZipApart z TI TO i1 i2 l1 l2) (hz : ZF s.heap z TI TO f0 f1) (h0 : F0 f0) (hTI : IsPair s.heap TI (.ref i1) (.ref i2)) (hTO : IsPair s.heap TO u v)
    (h1 : s.heap.IsTupleIter i1 l1 k1) (h2 : s.heap.IsTupleIter i2 l2 k2) (hl1 : s.heap.IsTuple l1 xs) (hl2 : s.heap.IsTuple l2 ys) (hx : xs[k1]? = some x) (hy : ys[k2]? = some y)
    (hQ : ∀ h', (∃ f0 f1, ZF h' z TI TO f0 f1 ∧ F0 f0) → (∃ u v, IsPair h' TO u v) → h'.IsTupleIter i1 l1 (k1 + 1) → h'.IsTupleIter i2 l2 (k2 + 1) → IsPair h' s.heap.objs.size x y → Kept4 z TO i1 i2 s.heap h' → h'.objs.size = s.heap.objs.size + 1 → Q (.ref s.heap.objs.size) { s with heap := h' }) :
    wpAny (model prog w) A (Builtin.SmallTypes.nextOf (.ref z)) Q E s := by
  have hT : s.TypeIs (.ref z) "zip" := ⟨_, hz, rfl⟩
  unfold Builtin.SmallTypes.nextOf
  exact wpAny_bind (wpAny_callSpecial?_slot (name := Str.ofString "__next__") hT F.slot_zip_next
    (wpAny_call_entry F.slot_zip_next hT F.entry_zip_next (next_item D hz h0 hTI hTO h1 h2 hl1 hl2 hx hy fun h' b1 b2 b3 b4 b5 b6 b7 => wpAny_pure (hQ h' b1 b2 b3 b4 b5 b6 b7)) (F.args_zip_next_1 _)))
theorem nextOf_end {Q : Value → Shared → Prop} (hh : A.handled = none) (D : ZipApart z TI TO i1 i2 l1 l2) (hz : ZF s.heap z TI TO f0 f1) (h0 : F0 f0) (hTI : IsPair s.heap TI (.ref i1) (.ref i2)) (hTO : IsPair s.heap TO u v)
    (h1 : s.heap.IsTupleIter i1 l1 k1) (h2 : s.heap.IsTupleIter i2 l2 k2) (hl1 : s.heap.IsTuple l1 xs) (hl2 : s.heap.IsTuple l2 ys) (hend : xs[k1]? = none ∨ ys[k2]? = none)
    (hE : ∀ h' e, Kept4 z TO i1 i2 s.heap h' → (∃ o, h'.get? e = some o ∧ o.cls = .type "StopIteration") → E (.ref e) { s with heap := h' }) :
    wpAny (model prog w) A (Builtin.SmallTypes.nextOf (.ref z)) Q E s := by
  have hT : s.TypeIs (.ref z) "zip" := ⟨_, hz, rfl⟩
  unfold Builtin.SmallTypes.nextOf
  exact wpAny_bind (wpAny_callSpecial?_slot (name := Str.ofString "__next__") hT F.slot_zip_next
    (wpAny_call_entry F.slot_zip_next hT F.entry_zip_next (next_end hh D hz h0 hTI hTO h1 h2 hl1 hl2 hend hE) (F.args_zip_next_1 _)))
/-- enumerate over it -/
theorem enum_item {e : Addr} {i : Nat} {old : Value} {Q : Option Value → Shared → Prop} (he : IsEnum s.heap e z (i : Nat) old) (ez : e ≠ z) (eTO : e ≠ TO) (e1 : e ≠ i1) (e2 : e ≠ i2)
    (D : ZipApart z TI TO i1 i2 l1 l2) (hz : ZF s.heap z TI TO f0 f1) (h0 : F0 f0) (hTI : IsPair s.heap TI (.ref i1) (.ref i2)) (hTO : IsPair s.heap TO u v)
    (h1 : s.heap.IsTupleIter i1 l1 k1) (h2 : s.heap.IsTupleIter i2 l2 k2) (hl1 : s.heap.IsTuple l1 xs) (hl2 : s.heap.IsTuple l2 ys) (hx : xs[k1]? = some x) (hy : ys[k2]? = some y)
    (hQ : ∀ g h' tk, (∃ f0 f1, ZF g z TI TO f0 f1 ∧ F0 f0) → (∃ u v, IsPair g TO u v) → g.IsTupleIter i1 l1 (k1 + 1) → g.IsTupleIter i2 l2 (k2 + 1) → IsPair g s.heap.objs.size x y → Kept4 z TO i1 i2 s.heap g → g.objs.size = s.heap.objs.size + 1 →
      IsEnumOut h' e z ((i : Int) + 1) (.ref s.heap.objs.size) (s.heap.objs.size + 1) → h'.get? (s.heap.objs.size + 1) = some { cls := .type "tuple", data := .seq #[.int (i : Nat) tk, .ref s.heap.objs.size] } → Heap.ExtBut e g h' →
      Q (some (.ref (s.heap.objs.size + 1))) { s with heap := h', toks := s.toks + 1 }) :
    wpAny (model prog w) A (pyNext (.ref e)) Q E s := by
  have hT : s.TypeIs (.ref e) "enumerate" := ⟨_, he, rfl⟩
  unfold pyNext
  refine wpAny_bind (wpAny_attempt (wpAny_callSpecial?_slot (name := Str.ofString "__next__") hT F.slot_enumerate_next (wpAny_call_entry F.slot_enumerate_next hT F.entry_enumerate_next ?_ (F.args_enumerate_next_1 _))))
  show wpAny _ _ (field (.ref e) 2 >>= _) _ _ _
  refine wpAny_bind (wpAny_field he rfl (x := .ref z) rfl ?_)
  refine wpAny_bind (nextOf_item D hz h0 hTI hTO h1 h2 hl1 hl2 hx hy fun g b1 b2 b3 b4 b5 b6 b7 => ?_)
  have he1 : IsEnum g e z (i : Nat) old := b6 _ _ ez eTO e1 e2 he
  refine wpAny_bind (wpAny_field he1 rfl (x := rawInt (i : Nat)) rfl ?_)
  show wpAny _ _ (field (.ref e) 4 >>= _) _ _ _
  refine wpAny_bind (wpAny_field he1 rfl (x := .none) rfl ?_)
  show wpAny _ _ (mkInt _ >>= _) _ _ _
  refine wpAny_bind (wpAny_mkInt ?_)
  show wpAny _ _ (setField (.ref e) 3 _ >>= _) _ _ _
  refine wpAny_bind (wpAny_setField_rec he1 (by simp) fun g3 Z3 S3 => ?_)
  replace Z3 : IsEnum g3 e z ((i : Int) + 1) old := Z3
  refine wpAny_bind (wpAny_setField_rec Z3 (by simp) fun g4 Z4 S4 => ?_)
  replace Z4 : IsEnum g4 e z ((i : Int) + 1) old := Z4
  refine wpAny_bind (wpAny_newTuple ?_)
  have sz : g4.objs.size = s.heap.objs.size + 1 := S4.1.trans (S3.1.trans b7)
  have el : e < g4.objs.size := Heap.lt_size Z4
  have Z5 : IsEnum (g4.push { cls := .type "tuple", data := .seq #[.int (i : Nat) s.toks, .ref s.heap.objs.size] }) e z ((i : Int) + 1) old := Heap.get?_push_of_some _ Z4
  have T5 : (g4.push { cls := .type "tuple", data := .seq #[.int (i : Nat) s.toks, .ref s.heap.objs.size] }).get? g4.objs.size = some { cls := .type "tuple", data := .seq #[.int (i : Nat) s.toks, .ref s.heap.objs.size] } := Heap.get?_push_size _ rfl
  show wpAny _ _ (Builtin.SmallTypes.ownedTupleIsFree (.ref e) >>= _) _ _ _
  refine wpAny_bind ?_
  unfold Builtin.SmallTypes.ownedTupleIsFree
  refine wpAny_bind (wpAny_field Z5 rfl (x := .none) rfl (wpAny_pure ?_))
  simp only [if_true]
  refine wpAny_bind (wpAny_rule (wpAny_bind (wpAny_field Z5 rfl (x := old) rfl (wpAny_bind (wpAny_setField_rec Z5 (by simp) fun g6 Z6 S6 => ?_)))))
  replace Z6 : IsEnum g6 e z ((i : Int) + 1) (.ref s.heap.objs.size) := Z6
  show wpAny _ _ (Builtin.SmallTypes.ownedTupleHandOut (.ref e) (.ref g4.objs.size) >>= _) _ _ _
  refine wpAny_bind ?_
  unfold Builtin.SmallTypes.ownedTupleHandOut
  refine wpAny_bind (wpAny_setField_rec Z6 (by simp) fun g7 Z7 S7 => ?_)
  replace Z7 : IsEnumOut g7 e z ((i : Int) + 1) (.ref s.heap.objs.size) g4.objs.size := Z7
  refine wpAny_setField_rec Z7 (by simp) fun g8 Z8 S8 => ?_
  replace Z8 : IsEnumOut g8 e z ((i : Int) + 1) (.ref s.heap.objs.size) g4.objs.size := Z8
  refine wpAny_bind (wpAny_letGo (wpAny_pure ⟨_, rfl, ?_⟩))
  refine wpAny_pure ?_
  have T8 : g8.get? g4.objs.size = some { cls := .type "tuple", data := .seq #[.int (i : Nat) s.toks, .ref s.heap.objs.size] } := S8.extBut _ _ (Nat.ne_of_gt el) (S7.extBut _ _ (Nat.ne_of_gt el) (S6.extBut _ _ (Nat.ne_of_gt el) T5))
  rw [sz] at Z8 T8
  show Q (some (.ref g4.objs.size)) _
  rw [sz]
  exact hQ g g8 s.toks b1 b2 b3 b4 b5 b6 b7 Z8 T8 fun c o c1 q => S8.extBut _ _ c1 (S7.extBut _ _ c1 (S6.extBut _ _ c1 (Heap.get?_push_of_some _ (S4.extBut _ _ c1 (S3.extBut _ _ c1 q)))))
theorem enum_end {e : Addr} {i : Nat} {old : Value} {Q : Option Value → Shared → Prop} (hh : A.handled = none) (he : IsEnum s.heap e z (i : Nat) old)
    (D : ZipApart z TI TO i1 i2 l1 l2) (hz : ZF s.heap z TI TO f0 f1) (h0 : F0 f0) (hTI : IsPair s.heap TI (.ref i1) (.ref i2)) (hTO : IsPair s.heap TO u v)
    (h1 : s.heap.IsTupleIter i1 l1 k1) (h2 : s.heap.IsTupleIter i2 l2 k2) (hl1 : s.heap.IsTuple l1 xs) (hl2 : s.heap.IsTuple l2 ys) (hend : xs[k1]? = none ∨ ys[k2]? = none)
    (hQ : ∀ h', Kept4 z TO i1 i2 s.heap h' → Q none { s with heap := h' }) : wpAny (model prog w) A (pyNext (.ref e)) Q E s := by
  have hT : s.TypeIs (.ref e) "enumerate" := ⟨_, he, rfl⟩
  unfold pyNext
  refine wpAny_bind (wpAny_attempt (wpAny_callSpecial?_slot (name := Str.ofString "__next__") hT F.slot_enumerate_next (wpAny_call_entry F.slot_enumerate_next hT F.entry_enumerate_next ?_ (F.args_enumerate_next_1 _))))
  show wpAny _ _ (field (.ref e) 2 >>= _) _ _ _
  refine wpAny_bind (wpAny_field he rfl (x := .ref z) rfl ?_)
  refine wpAny_bind (nextOf_end hh D hz h0 hTI hTO h1 h2 hl1 hl2 hend fun h' x hk hx => ?_)
  obtain ⟨o, ho, hc⟩ := hx
  exact wpAny_bind (wpAny_isInstance (T := "StopIteration") (b := true) ⟨o, ho, hc⟩ isSubtype_stop (wpAny_pure (hQ _ hk)))
theorem meets_new (z TI TO : Addr) : Meets (Builtin.«enumerate.__new__» ⟨[.type "enumerate", .ref z], []⟩) (fun _ R s => IsZip s.heap z TI TO .none ∧ R (.ok (.ret (.ref s.heap.objs.size))) { s with heap := s.heap.push { cls := .type "enumerate", data := .fields #[.none, .bool false, .ref z, rawInt 0, .none, .none] } }) :=
  .of_wp fun prog w A R s h => by
    obtain ⟨hp, g, d, tk, os⟩ := s; obtain ⟨hl, h⟩ := h; have hsub := sub_enumerate
    have hL : IsZip (Shared.heap ⟨hp, g, d, tk, os⟩) z TI TO .none := hl
    have hl' : hp.get? z = some { cls := .type "zip", data := .fields #[.none, .bool false, .bool false, .ref TI, .ref TO] } := hl
    wp_walk using AutoSeq1.wpAny_loadPart' hl'
    refine wpAny_stack_any fun st => wpAny_pure ?_; split
    · rename_i c _ _ _ _ _; cases (c == Value.type "enumerate")
      · wp_walk using AutoSeq1.wpAny_loadPart' hl', wpAny_pyIter_zip hL; exact ⟨_, rfl, h⟩
      · wp_walk using AutoSeq1.wpAny_loadPart' hl', wpAny_pyIter_zip hL; exact ⟨_, rfl, h⟩
    · wp_walk using AutoSeq1.wpAny_loadPart' hl', wpAny_pyIter_zip hL; exact ⟨_, rfl, h⟩
theorem call_new {Q : Value → Shared → Prop} (hL : IsZip s.heap z TI TO .none)
    (h : ∀ h', IsEnum h' s.heap.objs.size z 0 .none → (∀ b o, s.heap.get? b = some o → h'.get? b = some o) → Q (.ref s.heap.objs.size) { s with heap := h' }) : wpAny (model prog w) A (call (.type "enumerate") [.ref z]) Q E s := by
  refine callType_new F.called_enumerate (by decide) (F.typeCall_enumerate_1 _) (F.newCall_enumerate_1 _) (fun obj => F.args_object_init_2 obj _) F.entry_enumerate_new (meets_new z TI TO) ⟨hL, ?_⟩
  have he : IsEnum (s.heap.push { cls := .type "enumerate", data := .fields #[.none, .bool false, .ref z, rawInt 0, .none, .none] }) s.heap.objs.size z 0 .none := Heap.get?_push_size _ rfl
  exact ⟨⟨_, he, rfl⟩, h _ he fun b o x => Heap.get?_push_of_some _ x⟩
end
/-- the tuples at a and b, two of their items in a new pair each time, this in a new pair with its number -/
def ItE (K : PySem.W.Frag) (a b : Addr) : It :=
  ⟨fun i H => ∃ (xs ys : List V) (x y : V), SqT K H a xs ∧ SqT K H b ys ∧ xs[i]? = some x ∧ ys[i]? = some y,
    fun i H v H' => ∃ T T2 x y, v = .ref T2 ∧ H T = none ∧ upd H T (.tup [x, y]) T2 = none ∧ H' = upd (upd H T (.tup [x, y])) T2 (.tup [.int (i : Nat), .ref T]) ∧ (∀ xs, SqT K H a xs → xs[i]? = some x) ∧ ∀ ys, SqT K H b ys → ys[i]? = some y,
    fun i H => ∃ xs ys : List V, SqT K H a xs ∧ SqT K H b ys ∧ (xs.length ≤ i ∨ ys.length ≤ i)⟩
theorem turnE {P : Program} {w : World} {K : PySem.W.Frag} {elts : List Expr} {kk : Nat} {tpos : Pos} {a b e z TI TO i1 i2 : Addr} (D : ZipApart z TI TO i1 i2 a b) (ez : e ≠ z) (eTI : e ≠ TI) (eTO : e ≠ TO) (e1 : e ≠ i1) (e2 : e ≠ i2) :
    Turn P w K (.Tuple elts kk tpos) (ItE K a b) [e, z, TI, TO, i1, i2] e (fun i h => (∃ old, IsEnum h e z ((i : Nat) : Int) old) ∧ (∃ f0 f1, ZF h z TI TO f0 f1 ∧ F0 f0) ∧ IsPair h TI (.ref i1) (.ref i2) ∧ (∃ x y, IsPair h TO x y) ∧ h.IsTupleIter i1 a i ∧ h.IsTupleIter i2 b i) where
  mem := by simp
  obj := fun i h st c hc => by
    obtain ⟨⟨old, he⟩, ⟨f0, f1, hz, h0⟩, hTI, ⟨x, y, hTO⟩, ⟨o1, q1, _, d1⟩, ⟨o2, q2, _, d2⟩⟩ := st
    simp only [List.mem_cons, List.not_mem_nil, or_false] at hc
    rcases hc with rfl | rfl | rfl | rfl | rfl | rfl
    · exact ⟨_, he, fun v q => nomatch q⟩
    · exact ⟨_, hz, fun v q => nomatch q⟩
    · exact ⟨_, hTI, fun v q => nomatch q⟩
    · exact ⟨_, hTO, fun v q => nomatch q⟩
    · exact ⟨o1, q1, fun v q => by rw [d1] at q; cases q⟩
    · exact ⟨o2, q2, fun v q => by rw [d2] at q; cases q⟩
  keep := fun i h h' st k => by
    obtain ⟨⟨old, he⟩, ⟨f0, f1, hz, h0⟩, hTI, ⟨x, y, hTO⟩, h1, h2⟩ := st
    exact ⟨⟨old, k e (by simp) _ he⟩, ⟨f0, f1, k z (by simp) _ hz, h0⟩, k TI (by simp) _ hTI, ⟨x, y, k TO (by simp) _ hTO⟩, h1.at fun o q => k i1 (by simp) o q, h2.at fun o q => k i2 (by simp) o q⟩
  item := by
    intro X hP hw hK hc i pins s σ H E I hf st hg
    subst hP hw hK
    obtain ⟨⟨old, he⟩, ⟨f0, f1, hz, h0⟩, hTI, ⟨x0, y0, hTO⟩, h1, h2⟩ := st
    obtain ⟨xs, ys, x, y, hqx, hqy, hx, hy⟩ := hg
    obtain ⟨its, rv, p, _⟩ := I.tuple hqx
    obtain ⟨its2, rv2, p2, _⟩ := I.tuple hqy
    obtain ⟨u, hu, ru⟩ := rv.get hx
    obtain ⟨u2, hu2, ru2⟩ := rv2.get hy
    have low : ∀ c ∈ [e, z, TI, TO, i1, i2], c < s.heap.objs.size := fun c hcm => by
      simp only [List.mem_cons, List.not_mem_nil, or_false] at hcm
      rcases hcm with rfl | rfl | rfl | rfl | rfl | rfl
      · exact Heap.lt_size he
      · exact Heap.lt_size hz
      · exact Heap.lt_size hTI
      · exact Heap.lt_size hTO
      · obtain ⟨_, q, _⟩ := h1; exact Heap.lt_size q
      · obtain ⟨_, q, _⟩ := h2; exact Heap.lt_size q
    have hel : e < s.heap.objs.size := low e (by simp)
    refine enum_item he ez eTO e1 e2 D hz h0 hTI hTO h1 h2 (show s.heap.IsTuple a its.toArray from p) (show s.heap.IsTuple b its2.toArray from p2) (x := u) (y := u2) (by simpa using hu) (by simpa using hu2) fun g h' tk b1 b2 b3 b4 b5 b6 b7 ho hT hX => ?_
    refine ⟨_, rfl, wpAny_letOwnedTupleGo_enum (s := { s with heap := h', toks := s.toks + 1 }) ho fun h'' he' sb => ?_⟩
    have sX := sb.extBut
    have new1 : ObjOk X.prog X.w (upd H s.heap.objs.size (.tup [x, y])) g s.heap.objs.size (.tup [x, y]) := ⟨by show 2 ≤ sizeLine; decide, [u, u2], .cons ru (.cons ru2 .nil), ⟨_, b5, rfl, _, rfl⟩⟩
    have far1 : ∀ c o, c ∉ [e, z, TI, TO, i1, i2] → s.heap.get? c = some o → g.get? c = some o := fun c o n q => by
      simp only [List.mem_cons, List.not_mem_nil, or_false, not_or] at n
      exact b6 c o n.2.1 n.2.2.2.1 n.2.2.2.2.1 n.2.2.2.2.2 q
    have I1 : Inv X pins σ (upd H s.heap.objs.size (.tup [x, y])) { s with heap := g } := I.turnedNew (t' := s.toks) (ch := [e, z, TI, TO, i1, i2]) far1 hf (Nat.le_refl _) new1
    have T2 : h''.get? (s.heap.objs.size + 1) = some { cls := .type "tuple", data := .seq #[.int (i : Nat) tk, .ref s.heap.objs.size] } := sX _ _ (Nat.ne_of_gt (Nat.lt_succ_of_lt hel)) hT
    have new2 : ObjOk X.prog X.w (upd (upd H s.heap.objs.size (.tup [x, y])) (s.heap.objs.size + 1) (.tup [.int (i : Nat), .ref s.heap.objs.size])) h'' (s.heap.objs.size + 1) (.tup [.int (i : Nat), .ref s.heap.objs.size]) := ⟨by show 2 ≤ sizeLine; decide, [.int (i : Nat) tk, .ref s.heap.objs.size], .cons ⟨_, rfl⟩ (.cons rfl .nil), ⟨_, T2, rfl, _, rfl⟩⟩
    have hf1 : ∀ c ∈ [e, z, TI, TO, i1, i2], FpOk X pins (upd H s.heap.objs.size (.tup [x, y])) c := fun c hcm => ⟨by rw [upd_ne (Nat.ne_of_lt (low c hcm))]; exact (hf c hcm).1, (hf c hcm).2⟩
    have I2 : Inv X pins σ (upd (upd H s.heap.objs.size (.tup [x, y])) (s.heap.objs.size + 1) (.tup [.int (i : Nat), .ref s.heap.objs.size])) { s with heap := h'', toks := s.toks + 1 } := I1.turnedNew (t' := s.toks + 1) (ch := [e, z, TI, TO, i1, i2]) (fun c o n q => by
      simp only [List.mem_cons, List.not_mem_nil, or_false, not_or] at n
      exact sX _ _ n.1 (hX _ _ n.1 q)) hf1 (by show g.objs.size ≤ _; rw [b7]; exact Nat.le_refl _) new2
    refine ⟨.ref (s.heap.objs.size + 1), _, I2, rfl, ⟨_, _, x, y, rfl, I.hok.fresh (Nat.le_refl _), ?_, rfl, fun l hl => by rw [I.tuple_inj hl hqx]; exact hx, fun l hl => by rw [I.tuple_inj hl hqy]; exact hy⟩, ⟨⟨.ref s.heap.objs.size, ?_⟩, ?_, ?_, ?_, ?_, ?_⟩, fun c hcm => ?_⟩
    · rw [upd_ne (Nat.succ_ne_self _)]
      exact I.hok.fresh (Nat.le_succ _)
    · have q : ((i + 1 : Nat) : Int) = (i : Int) + 1 := by omega
      rw [q]; exact he'
    · obtain ⟨g0, g1, c1, c2⟩ := b1
      exact ⟨g0, g1, sX _ _ ez.symm (hX _ _ ez.symm c1), c2⟩
    · exact sX _ _ eTI.symm (hX _ _ eTI.symm (b6 _ _ D.TIz D.TITO D.TIi1 D.TIi2 hTI))
    · obtain ⟨c1, c2, c3⟩ := b2
      exact ⟨c1, c2, sX _ _ eTO.symm (hX _ _ eTO.symm c3)⟩
    · exact b3.at fun o q => sX _ _ e1.symm (hX _ _ e1.symm q)
    · exact b4.at fun o q => sX _ _ e2.symm (hX _ _ e2.symm q)
    · have l := low c hcm
      rw [upd_ne (Nat.ne_of_lt (Nat.lt_succ_of_lt l)), upd_ne (Nat.ne_of_lt l)]
      exact (hf c hcm).1
  done := by
    intro X hP hw hK hc i pins s σ H E I hf st hg
    subst hP hw hK
    obtain ⟨⟨old, he⟩, ⟨f0, f1, hz, h0⟩, hTI, ⟨x0, y0, hTO⟩, h1, h2⟩ := st
    obtain ⟨xs, ys, hqx, hqy, hend⟩ := hg
    obtain ⟨its, rv, p, _⟩ := I.tuple hqx
    obtain ⟨its2, rv2, p2, _⟩ := I.tuple hqy
    have l1 := rv.length
    have l2 := rv2.length
    have hn : its.toArray[i]? = none ∨ its2.toArray[i]? = none := hend.imp (fun q => by simp; omega) fun q => by simp; omega
    refine enum_end (I.ok.hd hc) he D hz h0 hTI hTO h1 h2 (show s.heap.IsTuple a its.toArray from p) (show s.heap.IsTuple b its2.toArray from p2) hn fun h' hk => ⟨rfl, I.turnedL (t' := s.toks) (ch := [e, z, TI, TO, i1, i2]) (fun c o n q => ?_) hf⟩
    simp only [List.mem_cons, List.not_mem_nil, or_false, not_or] at n
    exact hk c o n.2.1 n.2.2.2.1 n.2.2.2.2.1 n.2.2.2.2.2 q
  self := fun A i s Q E st h => let ⟨⟨_, he⟩, _⟩ := st; wpAny_pyIter_enum he h
def iE (K : PySem.W.Frag) (ta : TA) : TI := fun σ H R => ta σ H fun vs H1 => ∃ a b xs ys, vs = [.ref a, .ref b] ∧ SqT K H1 a xs ∧ SqT K H1 b ys ∧ R (ItE K a b) H1
theorem pi_E {X : Cx} {e e2 : Expr} {ta : TA} {p p2 pos pos2 tpos : Pos} {elts : List Expr} {kk : Nat} (hg : Gl X "enumerate") (hm : X.mg "enumerate" = none) (hgz : Gl X "zip") (hmz : X.mg "zip" = none) (ha : PA X [e, e2] ta)
    (hs : starEach [e, e2] X.env = (false, eval e X.env) :: starEach [e2] X.env := by rfl) (hpl : (backTo pos2 (starEach [e2] X.env)).any (·.1) = false := by rfl)
    (hs1 : starEach [.Call (.Name "zip" p2) [e, e2] [] pos2] X.env = (false, eval (.Call (.Name "zip" p2) [e, e2] [] pos2) X.env) :: starEach [] X.env := by rfl) :
    PI X (.Tuple elts kk tpos) (.Call (.Name "enumerate" p) [.Call (.Name "zip" p2) [e, e2] [] pos2] [] pos) (iE X.K ta) := by
  refine ⟨fun pins s σ H R I h => ?_⟩
  refine Call_ (ld_blt I hg hm boot_enumerate (PyProof.Rows.callWith_type1 (PyProof.Rows.spliced_more (Call_ (ld_blt I hgz hmz PyProof.Rows.boot_zip (PyProof.Rows.callWith_type1 (thn (ha.run pos2 pins s σ H _ I h) fun us s1 ⟨vs, H1, I1, r1, q1⟩ => ?_) hs hpl))) hs1) hs1 rfl))
  obtain ⟨a, b, xs, ys, ex, hqx, hqy, q⟩ := q1
  subst ex
  cases r1 with
  | cons r rr =>
    cases rr with
    | cons r' rr =>
      cases rr
      cases r
      cases r'
      obtain ⟨its, rv, p1, _⟩ := I1.tuple hqx
      obtain ⟨its2, rv2, p2, _⟩ := I1.tuple hqy
      obtain ⟨o1, ho1, _⟩ := id p1
      obtain ⟨o2, ho2, _⟩ := id p2
      refine RZ.call_zipT (show s1.heap.IsTuple a its.toArray from p1) (show s1.heap.IsTuple b its2.toArray from p2) fun h' hz hTI hTO h1 h2 hsz hk => ?_
      refine PySem.Calls.spliced_nil ?_
      refine call_new (s := { s1 with heap := h' }) hz fun h'' he hk2 => wpAny_pyIter_enum he ?_
      have sz : h'.objs.size = s1.heap.objs.size + 5 := hsz
      rw [show (Shared.heap { s1 with heap := h' }) = h' from rfl, sz] at he
      have I2 : Inv X pins σ H1 { s1 with heap := h'' } := I1.kept (t' := s1.toks) fun c o x => hk2 _ _ (hk _ _ x)
      have fresh : ∀ c, c ∈ [s1.heap.objs.size + 5, s1.heap.objs.size + 4, s1.heap.objs.size + 2, s1.heap.objs.size + 3, s1.heap.objs.size, s1.heap.objs.size + 1] → FpOk X pins H1 c := fun c hcm => by
        have hle : s1.heap.objs.size ≤ c := by
          simp only [List.mem_cons, List.not_mem_nil, or_false] at hcm
          generalize s1.heap.objs.size = n at hcm ⊢
          have : ∀ {x y : Nat}, c = x → y ≤ x → y ≤ c := fun h h' => h ▸ h'
          rcases hcm with z | z | z | z | z | z
          · exact this z (Nat.le_add_right _ _)
          · exact this z (Nat.le_add_right _ _)
          · exact this z (Nat.le_add_right _ _)
          · exact this z (Nat.le_add_right _ _)
          · exact this z (Nat.le_refl _)
          · exact this z (Nat.le_add_right _ _)
        exact I1.fpOk hle (I1.hok.fresh hle)
      have ne : ∀ {n j k : Nat}, j < k → n + k ≠ n + j := fun h q => Nat.ne_of_gt h (Nat.add_left_cancel q)
      have A := PySem.W.ktu_apart s1.heap.objs.size a b (Heap.lt_size ho1) (Heap.lt_size ho2)
      refine ⟨s1.heap.objs.size + 5, _, _, _, H1, by rw [sz], I2, turnE (e := s1.heap.objs.size + 5) A (ne (by decide)) (ne (by decide)) (ne (by decide)) (ne (j := 0) (by decide)) (ne (by decide)), ?_, fresh, q⟩
      exact ⟨⟨.none, he⟩, ⟨_, _, hk2 _ _ hz, .inl rfl⟩, hk2 _ _ hTI, ⟨_, _, hk2 _ _ hTO⟩, h1.at fun o x => hk2 _ _ x, h2.at fun o x => hk2 _ _ x⟩
end EZ
namespace DL
open PySem PySem.Spec PyProof.Rows L2
section
variable {T : DKd} {X : Cx} {K : PySem.W.Frag} {HS : Hp} {e e2 : Expr} {ta tb : DT D} {pos pos2 p p2 tpos : Pos} {elts : List Expr} {kk : Nat}
theorem it_E {a b : Addr} {vs us : List V} {ds es : List D} (h : SqT K HS a vs) (q : Rvs K HS vs ds) (h' : SqT K HS b us) (q' : Rvs K HS us es) : ItOk T K (EZ.ItE K a b) HS (zipD (rangeD 0 (zipD ds es).length) (zipD ds es)) := fun dk HS' H' sm w => by
  have h1 : SqT K H' a vs := same_seqT w.sub (same_seqT sm h)
  have h2 : SqT K H' b us := same_seqT w.sub (same_seqT sm h')
  refine ⟨fun i d e => ?_, vs, us, h1, h2, ?_⟩
  · obtain ⟨n, xy, en, exy, rfl⟩ := zipD_get e
    obtain ⟨_, en⟩ := rangeD_get en
    subst en
    obtain ⟨x, y, ex, ey, rfl⟩ := zipD_get exy
    obtain ⟨v, hv, r⟩ := q.getD ex
    obtain ⟨u, hu, r'⟩ := q'.getD ey
    refine ⟨⟨vs, us, v, u, h1, h2, hv, hu⟩, fun z H'' y => ?_⟩
    obtain ⟨t, t2, v', u', rfl, hn, hn2, rfl, k1, k2⟩ := y
    have e1 := k1 vs h1
    rw [hv] at e1
    cases e1
    have e2 := k2 us h2
    rw [hu] at e2
    cases e2
    rw [Int.zero_add]
    obtain ⟨s, rr⟩ := new_tup w hn (.cons (dp_same sm _ _ r) (.cons (dp_same sm _ _ r') .nil))
    obtain ⟨s2, rr2⟩ := new_tup s.wd hn2 (.cons (.int _) (.cons rr .nil))
    exact ⟨_, s.trans s2, rr2⟩
  · rw [zipD_len, rangeD_len, zipD_len, ← q.len, ← q'.len]; omega
/-- enumerate(zip(one, other)), two tuples -/
def xEnumZip (ta tb : DT D) : DT (List D) := fun ρ P => ta ρ fun d => tb ρ fun d2 => ∃ ds es, d = .tuple ds ∧ d2 = .tuple es ∧ P (zipD (rangeD 0 (zipD ds es).length) (zipD ds es))
theorem dit_E (hg : Gl X "enumerate") (hm : X.mg "enumerate" = none) (hgz : Gl X "zip") (hmz : X.mg "zip" = none) (he : DE T X e ta) (he2 : DE T X e2 tb)
    (hs : starEach [e, e2] X.env = (false, eval e X.env) :: starEach [e2] X.env := by rfl) (hpl : (backTo pos2 (starEach [e2] X.env)).any (·.1) = false := by rfl)
    (hs4 : starEach [e2] X.env = (false, eval e2 X.env) :: starEach [] X.env := by rfl)
    (hs1 : starEach [.Call (.Name "zip" p2) [e, e2] [] pos2] X.env = (false, eval (.Call (.Name "zip" p2) [e, e2] [] pos2) X.env) :: starEach [] X.env := by rfl) :
    DIt T X (.Tuple elts kk tpos) (.Call (.Name "enumerate" p) [.Call (.Name "zip" p2) [e, e2] [] pos2] [] pos) (xEnumZip ta tb) :=
  ⟨PI.imp (EZ.pi_E hg hm hgz hmz (pa_cons he.pe (pa_cons he2.pe pa_nil hs4) hs) hs hpl hs1) fun σ H R h => by
    obtain ⟨en, ρ, dk, HS, P, E, q, k⟩ := h
    refine ⟨en, ρ, dk, HS, _, E, q, fun d v HS1 H1 p s r => ⟨en, ρ, dk, HS1, _, E.stp s, p, fun d2 v2 HS2 H2 p2 s2 r2 => ?_⟩⟩
    obtain ⟨ds, es, rfl, rfl, p2⟩ := p2
    cases r with
    | tup h q =>
      cases r2 with
      | tup h2 q2 =>
        have h' := s2.sh _ _ h
        exact ⟨_, _, _, _, rfl, SqT.of (s2.wd.sub _ _ h'), SqT.of (s2.wd.sub _ _ h2), k _ _ HS2 H2 p2 (s.trans s2) (it_E (SqT.of h') (dps_same s2.sh _ _ q) (SqT.of h2) q2)⟩⟩
end
end DL

namespace ZL
open PySem PySem.Spec PyProof.Rows L2 ZM
open PySem.Sem (wp)
/-! ### zip(list, row) is made -/
abbrev hA (h : Heap) (l : Addr) : Heap := h.push { cls := .type "list_iterator", data := .fields #[.ref l, .int 0 0] }
abbrev hB (h : Heap) (l l' : Addr) : Heap := (hA h l).push { cls := .type "tuple_iterator", data := .fields #[.ref l', .int 0 0] }
abbrev hC (h : Heap) (l l' : Addr) : Heap := (hB h l l').push { cls := .type "tuple", data := .seq #[.ref h.objs.size, .ref (hA h l).objs.size] }
abbrev hD (h : Heap) (l l' : Addr) : Heap := (hC h l l').push { cls := .type "tuple", data := .seq #[.none, .none] }
abbrev hE (h : Heap) (l l' : Addr) : Heap := (hD h l l').push { cls := .type "zip", data := .fields #[.none, .bool false, .bool false, .ref (hB h l l').objs.size, .ref (hC h l l').objs.size] }
theorem meets_LT (l l' : Addr) (xs ys : Array Value) : Meets (Builtin.«zip.__new__» ⟨[.type "zip", .ref l, .ref l'], []⟩) (fun _ R s => s.heap.IsList l xs ∧ s.heap.IsTuple l' ys ∧ R (.ok (.ret (.ref (hD s.heap l l').objs.size))) { s with heap := hE s.heap l l' }) :=
  .of_wp fun prog w A R s h => by
    obtain ⟨hp, g, d, tk, os⟩ := s; obtain ⟨b1, b2, h⟩ := h
    have hsub := sub_zip
    have B1 : Heap.IsList (Shared.heap ⟨hp, g, d, tk, os⟩) l xs := b1
    have B2 : Heap.IsTuple (Shared.heap ⟨hA hp l, g, d, tk, os⟩) l' ys := Heap.IsTuple.push b2 _
    wp_walk using wpAny_pyIter_list B1, wpAny_pyIter_tuple B2
    exact ⟨_, rfl, h⟩
section
variable {prog : Program} {w : World} {A : Around} {E : Value → Shared → Prop} {s : Shared}
theorem call_LT {l l' : Addr} {xs ys : Array Value} {Q : Value → Shared → Prop} (b1 : s.heap.IsList l xs) (b2 : s.heap.IsTuple l' ys)
    (h : ∀ h', IsZip h' (s.heap.objs.size + 4) (s.heap.objs.size + 2) (s.heap.objs.size + 3) .none → IsPair h' (s.heap.objs.size + 2) (.ref s.heap.objs.size) (.ref (s.heap.objs.size + 1)) → IsPair h' (s.heap.objs.size + 3) .none .none →
      ItB false h' s.heap.objs.size l 0 → ItB true h' (s.heap.objs.size + 1) l' 0 → (∀ c o, s.heap.get? c = some o → h'.get? c = some o) → Q (.ref (s.heap.objs.size + 4)) { s with heap := h' }) :
    wpAny (model prog w) A (call (.type "zip") [.ref l, .ref l']) Q E s := by
  refine callType_new F.called_zip (by decide) (F.typeCall_zip_2 _ _) (F.newCall_zip_2 _ _) (fun obj => F.args_object_init_3 obj _ _) F.entry_zip_new (meets_LT l l' xs ys) ⟨b1, b2, ?_⟩
  have z1 : (hA s.heap l).objs.size = s.heap.objs.size + 1 := Heap.size_push ..
  have z2 : (hB s.heap l l').objs.size = s.heap.objs.size + 2 := by rw [Heap.size_push, z1]
  have z3 : (hC s.heap l l').objs.size = s.heap.objs.size + 3 := by rw [Heap.size_push, z2]
  have z4 : (hD s.heap l l').objs.size = s.heap.objs.size + 4 := by rw [Heap.size_push, z3]
  have up : ∀ {c o}, (hD s.heap l l').get? c = some o → (hE s.heap l l').get? c = some o := fun q => Heap.get?_push_of_some _ q
  have up3 : ∀ {c o}, (hC s.heap l l').get? c = some o → (hE s.heap l l').get? c = some o := fun q => up (Heap.get?_push_of_some _ q)
  have up2 : ∀ {c o}, (hB s.heap l l').get? c = some o → (hE s.heap l l').get? c = some o := fun q => up3 (Heap.get?_push_of_some _ q)
  have up1 : ∀ {c o}, (hA s.heap l).get? c = some o → (hE s.heap l l').get? c = some o := fun q => up2 (Heap.get?_push_of_some _ q)
  have g5 : (hE s.heap l l').get? (hD s.heap l l').objs.size = some _ := Heap.get?_push_size _ rfl
  have g4 : (hE s.heap l l').get? (hC s.heap l l').objs.size = some _ := up (Heap.get?_push_size _ rfl)
  have g3 : (hE s.heap l l').get? (hB s.heap l l').objs.size = some _ := up3 (Heap.get?_push_size _ rfl)
  have g2 : (hE s.heap l l').get? (hA s.heap l).objs.size = some _ := up2 (Heap.get?_push_size _ rfl)
  have g1 : (hE s.heap l l').get? s.heap.objs.size = some _ := up1 (Heap.get?_push_size _ rfl)
  show _ ∧ _
  rw [z2, z3, z4] at g5
  rw [z1, z2] at g3
  rw [z3] at g4
  rw [z1] at g2
  rw [z4]
  exact ⟨⟨_, g5, rfl⟩, h _ g5 g3 g4 ⟨_, g1, rfl, rfl⟩ ⟨_, g2, rfl, rfl⟩ fun c o x => up1 (Heap.get?_push_of_some _ x)⟩
end
/-- the row at a, the list at b -/
def ItLT (K : PySem.W.Frag) (a b : Addr) : It :=
  ⟨fun i H => ∃ (xs ys : List V) (x y : V), SqL K H a xs ∧ SqT K H b ys ∧ xs[i]? = some x ∧ ys[i]? = some y,
    fun i H v H' => ∃ T x y, v = .ref T ∧ H T = none ∧ H' = upd H T (.tup [x, y]) ∧ (∀ xs, SqL K H a xs → xs[i]? = some x) ∧ ∀ ys, SqT K H b ys → ys[i]? = some y,
    fun i H => ∃ xs ys : List V, SqL K H a xs ∧ SqT K H b ys ∧ (xs.length ≤ i ∨ ys.length ≤ i)⟩
theorem turnLT {P : Program} {w : World} {K : PySem.W.Frag} {elts : List Expr} {kk : Nat} {tpos : Pos} {a b z TI TO i1 i2 : Addr} (D : ZipApart z TI TO i1 i2 a b) :
    Turn P w K (.Tuple elts kk tpos) (ItLT K a b) [z, TI, TO, i1, i2] z (fun i h => IsZip h z TI TO .none ∧ IsPair h TI (.ref i1) (.ref i2) ∧ (∃ x y, IsPair h TO x y) ∧ ItB false h i1 a i ∧ ItB true h i2 b i) where
  mem := by simp
  obj := fun i h st c hc => by
    obtain ⟨hz, hTI, ⟨x, y, hTO⟩, h1, h2⟩ := st
    simp only [List.mem_cons, List.not_mem_nil, or_false] at hc
    rcases hc with rfl | rfl | rfl | rfl | rfl
    · exact ⟨_, hz, fun v q => nomatch q⟩
    · exact ⟨_, hTI, fun v q => nomatch q⟩
    · exact ⟨_, hTO, fun v q => nomatch q⟩
    · exact h1.has
    · exact h2.has
  keep := fun i h h' st k => by
    obtain ⟨hz, hTI, ⟨x, y, hTO⟩, h1, h2⟩ := st
    exact ⟨k z (by simp) _ hz, k TI (by simp) _ hTI, ⟨x, y, k TO (by simp) _ hTO⟩, h1.move fun o q => k i1 (by simp) o q, h2.move fun o q => k i2 (by simp) o q⟩
  item := by
    intro X hP hw hK hc i pins s σ H E I hf st hg
    subst hP hw hK
    obtain ⟨hz, hTI, ⟨x0, y0, hTO⟩, h1, h2⟩ := st
    obtain ⟨xs, ys, x, y, hqx, hqy, hx, hy⟩ := hg
    obtain ⟨its, rv, p, _⟩ := I.list hqx
    obtain ⟨its2, rv2, p2, _⟩ := I.tuple hqy
    obtain ⟨u, hu, ru⟩ := rv.get hx
    obtain ⟨u2, hu2, ru2⟩ := rv2.get hy
    have hzl : z < s.heap.objs.size := Heap.lt_size hz
    have low : ∀ c ∈ [z, TI, TO, i1, i2], c < s.heap.objs.size := fun c hcm => by
      simp only [List.mem_cons, List.not_mem_nil, or_false] at hcm
      rcases hcm with rfl | rfl | rfl | rfl | rfl
      · exact hzl
      · exact Heap.lt_size hTI
      · exact Heap.lt_size hTO
      · obtain ⟨_, e, _⟩ := h1.has; exact Heap.lt_size e
      · obtain ⟨_, e, _⟩ := h2.has; exact Heap.lt_size e
    refine pyNext_item D hz hTI hTO h1 h2 (show SqB false _ _ _ from p.isList) (show SqB true _ _ _ from p2) (x := u) (y := u2) (by simpa using hu) (by simpa using hu2) fun h' z' TO' h1' h2' hT hk => ?_
    refine ⟨_, rfl, wpAny_letOwnedTupleGo_zip (s := { s with heap := h' }) z' fun h'' z'' sb => ?_⟩
    have T2 : h''.get? s.heap.objs.size = some { cls := .type "tuple", data := .seq #[u, u2] } := (sb.2 _ (Nat.ne_of_gt hzl)).trans hT
    have new : ObjOk X.prog X.w (upd H s.heap.objs.size (.tup [x, y])) h'' s.heap.objs.size (.tup [x, y]) := ⟨by show 2 ≤ sizeLine; decide, [u, u2], .cons ru (.cons ru2 .nil), ⟨_, T2, rfl, _, rfl⟩⟩
    have far : ∀ c o, c ∉ [z, TI, TO, i1, i2] → s.heap.get? c = some o → h''.get? c = some o := fun c o n q => by
      simp only [List.mem_cons, List.not_mem_nil, or_false, not_or] at n
      exact (sb.2 c n.1).trans (hk c o n.1 n.2.2.1 n.2.2.2.1 n.2.2.2.2 q)
    have I1 : Inv X pins σ (upd H s.heap.objs.size (.tup [x, y])) { s with heap := h'' } := I.turnedNew (t' := s.toks) (ch := [z, TI, TO, i1, i2]) far hf (Nat.le_refl _) new
    refine ⟨.ref s.heap.objs.size, _, I1, rfl, ⟨_, x, y, rfl, I.hok.fresh (Nat.le_refl _), rfl, fun l hl => by rw [I.list_inj hl hqx]; exact hx, fun l hl => by rw [I.tuple_inj hl hqy]; exact hy⟩, ⟨z'', ?_, ⟨u, u2, ?_⟩, ?_, ?_⟩, fun c hcm => ?_⟩
    · exact (sb.2 _ D.TIz).trans (hk _ _ D.TIz D.TITO D.TIi1 D.TIi2 hTI)
    · exact (sb.2 _ D.TOz).trans TO'
    · exact h1'.move fun o q => (sb.2 _ D.i1z).trans q
    · exact h2'.move fun o q => (sb.2 _ D.i2z).trans q
    · rw [upd_ne (Nat.ne_of_lt (low c hcm))]
      exact (hf c hcm).1
  done := by
    intro X hP hw hK hc i pins s σ H E I hf st hg
    subst hP hw hK
    obtain ⟨hz, hTI, ⟨x0, y0, hTO⟩, h1, h2⟩ := st
    obtain ⟨xs, ys, hqx, hqy, hend⟩ := hg
    obtain ⟨its, rv, p, _⟩ := I.list hqx
    obtain ⟨its2, rv2, p2, _⟩ := I.tuple hqy
    have l1 := rv.length
    have l2 := rv2.length
    have he : its.toArray[i]? = none ∨ its2.toArray[i]? = none := hend.imp (fun q => by simp; omega) fun q => by simp; omega
    refine pyNext_end (I.ok.hd hc) D hz hTI hTO h1 h2 (show SqB false _ _ _ from p.isList) (show SqB true _ _ _ from p2) he fun h' hk => ⟨rfl, I.turnedL (t' := s.toks) (ch := [z, TI, TO, i1, i2]) (fun c o n q => ?_) hf⟩
    simp only [List.mem_cons, List.not_mem_nil, or_false, not_or] at n
    exact hk c o n.1 n.2.2.1 n.2.2.2.1 n.2.2.2.2 q
  self := fun A i s Q E st h => wpAny_pyIter_zip st.1 h
def iLT (K : PySem.W.Frag) (ta : TA) : TI := fun σ H R => ta σ H fun vs H1 => ∃ a b xs ys, vs = [.ref a, .ref b] ∧ SqL K H1 a xs ∧ SqT K H1 b ys ∧ R (ItLT K a b) H1
theorem pi_LT {X : Cx} {e e2 : Expr} {ta : TA} {p pos tpos : Pos} {elts : List Expr} {kk : Nat} (hg : Gl X "zip") (hm : X.mg "zip" = none) (ha : PA X [e, e2] ta)
    (hs : starEach [e, e2] X.env = (false, eval e X.env) :: starEach [e2] X.env := by rfl) (hpl : (backTo pos (starEach [e2] X.env)).any (·.1) = false := by rfl) : PI X (.Tuple elts kk tpos) (.Call (.Name "zip" p) [e, e2] [] pos) (iLT X.K ta) := by
  refine ⟨fun pins s σ H R I h => ?_⟩
  refine Call_ (ld_blt I hg hm PyProof.Rows.boot_zip (PyProof.Rows.callWith_type1 (thn (ha.run pos pins s σ H _ I h) fun us s1 ⟨vs, H1, I1, r1, q1⟩ => ?_) hs hpl))
  obtain ⟨a, b, xs, ys, ex, hqx, hqy, q⟩ := q1
  subst ex
  cases r1 with
  | cons r rr =>
    cases rr with
    | cons r' rr =>
      cases rr
      cases r
      cases r'
      have fresh5 : ∀ c, c ∈ [s1.heap.objs.size + 4, s1.heap.objs.size + 2, s1.heap.objs.size + 3, s1.heap.objs.size, s1.heap.objs.size + 1] → FpOk X pins H1 c := fun c hcm => by
        have hle : s1.heap.objs.size ≤ c := by
          simp only [List.mem_cons, List.not_mem_nil, or_false] at hcm
          generalize s1.heap.objs.size = n at hcm ⊢
          have : ∀ {x y : Nat}, c = x → y ≤ x → y ≤ c := fun h h' => h ▸ h'
          rcases hcm with z | z | z | z | z
          · exact this z (Nat.le_add_right _ _)
          · exact this z (Nat.le_add_right _ _)
          · exact this z (Nat.le_add_right _ _)
          · exact this z (Nat.le_refl _)
          · exact this z (Nat.le_add_right _ _)
        exact I1.fpOk hle (I1.hok.fresh hle)
      obtain ⟨its, rv, p1, _⟩ := I1.list hqx
      obtain ⟨its2, rv2, p2, _⟩ := I1.tuple hqy
      obtain ⟨o1, ho1, _⟩ := id p2
      refine call_LT p1.isList (show s1.heap.IsTuple b its2.toArray from p2) fun h' hz hTI hTO h1 h2 hk => wpAny_pyIter_zip hz ?_
      have I2 : Inv X pins σ H1 { s1 with heap := h' } := I1.kept (t' := s1.toks) hk
      exact ⟨s1.heap.objs.size + 4, [s1.heap.objs.size + 4, s1.heap.objs.size + 2, s1.heap.objs.size + 3, s1.heap.objs.size, s1.heap.objs.size + 1], _, _, H1, rfl, I2, turnLT (PySem.W.ktu_apart s1.heap.objs.size a b p1.lt (Heap.lt_size ho1)), ⟨hz, hTI, ⟨_, _, hTO⟩, h1, h2⟩, fresh5, q⟩
end ZL
namespace DL
open PySem PySem.Spec PyProof.Rows L2
section
variable {T : DKd} {X : Cx} {K : PySem.W.Frag} {dk : DkA} {HS H : Hp} {tg e e2 : Expr} {ta tb : DT D} {pos p tpos : Pos} {elts : List Expr} {kk : Nat}
theorem it_zipLT {a b : Addr} {vs us : List V} {ds es : List D} (h : HS a = some (.lst vs)) (q : Rvs K HS vs ds) (h' : SqT K HS b us) (q' : Rvs K HS us es) : ItOk T K (ZL.ItLT K a b) HS (zipD ds es) := fun dk HS' H' sm w => by
  have h1 : SqL K H' a vs := SqL.of (w.sub _ _ (sm _ _ h))
  have h2 : SqT K H' b us := same_seqT w.sub (same_seqT sm h')
  refine ⟨fun i d e => ?_, vs, us, h1, h2, ?_⟩
  · obtain ⟨x, y, ex, ey, rfl⟩ := zipD_get e
    obtain ⟨v, hv, r⟩ := q.getD ex
    obtain ⟨u, hu, r'⟩ := q'.getD ey
    refine ⟨⟨vs, us, v, u, h1, h2, hv, hu⟩, fun z H'' y => ?_⟩
    obtain ⟨t, v', u', rfl, hn, rfl, k1, k2⟩ := y
    have e1 := k1 vs h1
    rw [hv] at e1
    cases e1
    have e2 := k2 us h2
    rw [hu] at e2
    cases e2
    obtain ⟨s, rr⟩ := new_tup w hn (.cons (dp_same sm _ _ r) (.cons (dp_same sm _ _ r') .nil))
    exact ⟨_, s, rr⟩
  · rw [zipD_len, ← q.len, ← q'.len]; omega
/-- zip(list, row) -/
def xZipLT (ta tb : DT D) : DT (List D) := fun ρ P => ta ρ fun d => tb ρ fun d2 => ∃ ds es, d = .list ds ∧ d2 = .tuple es ∧ P (zipD ds es)
theorem dit_zipLT (hg : Gl X "zip") (hm : X.mg "zip" = none) (he : DE T X e ta) (he2 : DE T X e2 tb)
    (hs : starEach [e, e2] X.env = (false, eval e X.env) :: starEach [e2] X.env := by rfl) (hpl : (backTo pos (starEach [e2] X.env)).any (·.1) = false := by rfl)
    (hs4 : starEach [e2] X.env = (false, eval e2 X.env) :: starEach [] X.env := by rfl) : DIt T X (.Tuple elts kk tpos) (.Call (.Name "zip" p) [e, e2] [] pos) (xZipLT ta tb) :=
  ⟨PI.imp (ZL.pi_LT hg hm (pa_cons he.pe (pa_cons he2.pe pa_nil hs4) hs) hs hpl) fun σ H R h => by
    obtain ⟨en, ρ, dk, HS, P, E, q, k⟩ := h
    refine ⟨en, ρ, dk, HS, _, E, q, fun d v HS1 H1 p s r => ⟨en, ρ, dk, HS1, _, E.stp s, p, fun d2 v2 HS2 H2 p2 s2 r2 => ?_⟩⟩
    obtain ⟨ds, es, rfl, rfl, p2⟩ := p2
    cases r with
    | lst h q =>
      cases r2 with
      | tup h2 q2 =>
        have h' := s2.sh _ _ h
        exact ⟨_, _, _, _, rfl, SqL.of (s2.wd.sub _ _ h'), SqT.of (s2.wd.sub _ _ h2), k _ _ HS2 H2 p2 (s.trans s2) (it_zipLT h' (dps_same s2.sh _ _ q) (SqT.of h2) q2)⟩⟩
end
end DL

namespace DL
open PySem PySem.Spec PyProof.Rows L2
/-! ### a def that is called by another name than its own -/
structure CalA (Pg : Program) (w : World) (K : PySem.W.Frag) (mg : Str → Option Value) (base : Heap) (T : DKd) (j : Nat) (x : Str) (st : Stmt) (ps : List Str) (spd : SpD) : Prop where
  it : ∃ n f fd, Fun K n n st f fd ∧ FnG Pg w K mg base CX0 j f fd ps (lSp T K spd) ∧ mg x = some (.ref f) ∧ Binds K fd ps []
section
variable {T : DKd} {X : Cx} {e : Expr} {es : List Expr} {t : DT (List Ar)} {pos p : Pos} {x : Str} {j : Nat} {st : Stmt} {ps : List Str} {spd : SpD}
theorem dcA (c : CalA X.prog X.w X.K X.mg X.base T j x st ps spd) (hr : Room j X.A) (hgd : X.A.guards = some []) (hg : Gl X x) (ha : DA T X (e :: es) t) (hdb : (x == ("__debug__" : Str)) = false := by decide)
    (he : starEach (e :: es) X.env = (false, eval e X.env) :: starEach es X.env := by rfl) (hpl : (backTo pos (starEach es X.env)).any (·.1) = false := by rfl) : DE T X (.Call (.Name x p) (e :: es) [] pos) (xCall spd t) := by
  obtain ⟨n, f, fd, F, G, hm, hb⟩ := c.it
  exact d_call G hr hgd hg hm F.kp hb ha hdb he hpl
end
theorem calA_mk {T : DKd} {Pg : Program} {w : World} {K : PySem.W.Frag} {mg : Str → Option Value} {base : Heap} {k : Nat} {f : Addr} {x y : Str} {st : Stmt} {fd : FuncData} {N ps : List Str} {spd : SpD} (F : Fun K x x st f fd) (hm : mg y = some (.ref f)) (S : FnScope N ps (defScope st))
    (hbi : ∀ (kV doc pm : Value) (an : Option Addr) (cdv ct : Value) (us : List Value), us.length = ps.length → bindArgs (PySem.W.fnOf x x (defArgs st) (defBody st) (defScope st) .none kV doc pm an cdv ct) ⟨us, []⟩ = pure (ps.zip us))
    (len : ∀ as P, spd as P → as.length = ps.length)
    (hbody : ∀ (cdv : Value) (A : Around) (outer : List Env) (s : Shared) (H : Hp) (E : XK), Room k (A.deeper (envOfC x (defScope st) s.heap.objs.size f cdv)) → (A.deeper (envOfC x (defScope st) s.heap.objs.size f cdv)).guards = some [] →
      ∃ t, DSs T (cxOf CX0 Pg w K mg base N x (defScope st) f cdv A outer s H E).nox (defBody st) t ∧ ∀ as P, spd as P → t { nx := fun _ => P .none, rt := P } (startD N.length as)) : CalA Pg w K mg base T (k + 1) y st ps spd :=
  ⟨x, f, fd, F, gd_of F S len hbody, hm, F.binds hbi⟩
end DL

namespace DU
open PySem PySem.Spec PyProof.Rows L2
/-! ### d.update(e): e another dict with keys of the same kind -/
def rUpd : V → List V → Hp → VK → Prop := fun x vs H Q => ∃ a b kvs more, x = .ref a ∧ vs = [.ref b] ∧ a ≠ b ∧ H a = some (.dK kvs) ∧ H b = some (.dK more) ∧ kvs.length + more.length ≤ sizeLine ∧ Q .non (upd H a (.dK (mergeK kvs more)))
theorem KV.len {kvs : List (Key × V)} {vs : List (Key × Value)} (k : KV kvs vs) : kvs.length = vs.length := by
  induction k <;> simp_all
theorem mt_update {X : Cx} : MtR X "dict.update" rUpd := by
  intro pins s σ H x xs v us Q I rx rv h
  obtain ⟨a, b, kvs, more, ex, ev, ne, ha, hb, hl, q⟩ := h
  subst ex ev
  cases rx
  obtain ⟨u, rfl, r⟩ := vals1 rv
  cases r
  obtain ⟨l1, n1, vs, k1, D1⟩ := dk_of I.hok ha
  obtain ⟨l2, n2, rs, k2, D2⟩ := dk_of I.hok hb
  have hT : s.TypeIs (.ref a) "dict" := by
    obtain ⟨o, es, ep, ho, hx, _⟩ := id D1
    exact ⟨o, ho, hx.1⟩
  have e1 := KV.len k1
  have e2 := KV.len k2
  refine call_meetsIn F.slot_dict_update hT F.entry_dict_update (F.args_dict_update_2 _ _) (meets_dict_update (mixKind X.prog X.w) a b ne n2) ⟨vs, rs, D1, D2, by omega, fun h' e1' e2' sb => ?_⟩
  have hm := KV.merge k2 k1
  have hlen : (mergeK kvs more).length ≤ sizeLine := Nat.le_trans (length_mergeK more kvs) hl
  obtain ⟨o, es, ep, ho, hx⟩ := id e1'
  exact ⟨.non, _, I.write (t' := s.toks) (x := a) (e := a) (by rw [ha]; trivial) (.inl rfl) (fun c u nc hc => (sb.2 c nc).trans hc) ⟨o, ho⟩ (by unfold ObjOk; exact ⟨hlen, n1, _, hm, e1'⟩), rfl, q⟩
end DU
namespace DL
open PySem PySem.Spec PyProof.Rows L2
section
variable {T : DKd} {X : Cx} {K : PySem.W.Frag} {en : Ent} {ρ : Envd} {dk : DkA} {HS H HS1 H1 : Hp} {σ σ2 : L2.St}
/-- an object that is being made, nobody's name yet -/
theorem EnvR.bg2 (E : EnvR T K en ρ dk HS H σ) {D : Addr} {o : HO} (m : ¬ dkMem dk D) (n : HS D = none) (f : en.H D = none) (ow : ∀ (i : Nat) (ds : List PyData), ρ[i]? = some (.own ds) → σ[i]? ≠ some (some (.ref D))) (od : ∀ (i : Nat) (t : Bool) (kvs : List (PyData × PyData)), ρ[i]? = some (.dct t kvs) → σ[i]? ≠ some (some (.ref D))) : EnvR T K en ρ dk HS (upd H D o) σ where
  fin := by
    refine ⟨⟨fun b o h => ?_, E.wd.off, fun x g z => ?_⟩, E.fin.sh, fun b o h k => ?_, E.fin.new, E.fin.dks, E.fin.dkf⟩
    · rw [upd_ne (ne_of_none h n)]; exact E.wd.sub b o h
    · obtain ⟨z1, z2⟩ := E.wd.dkc x g z
      have m1 : x ≠ D := fun w => m (by rw [z, ← w]; exact .inl rfl)
      have m2 : g ≠ D := fun w => m (by rw [z, ← w]; exact .inr rfl)
      exact ⟨z1, T.loc (upd_ne m1).symm (upd_ne m2).symm z2⟩
    · rw [upd_ne (ne_of_none h f)]; exact E.fin.fr b o h k
  len := E.len
  slots := fun j s e' => by
    obtain ⟨x, h1, h2⟩ := E.slots j s e'
    refine ⟨x, h1, ?_⟩
    cases s with
    | own es =>
      obtain ⟨p', us, rfl, m', n', h', q'⟩ := h2
      exact ⟨p', us, rfl, m', n', by rw [upd_ne (fun z => ow j es e' (by rw [← z]; exact h1))]; exact h', q'⟩
    | nil => trivial
    | val d => exact h2
    | deck => exact h2
    | dct u kvs =>
      obtain ⟨p', o', rfl, m', n', h', q'⟩ := h2
      exact ⟨p', o', rfl, m', n', by rw [upd_ne (fun z => od j u kvs e' (by rw [← z]; exact h1))]; exact h', q'⟩
  dist := E.dist
  fresh := E.fresh
  d2 := E.d2
/-- what was not there is nobody's own -/
theorem EnvR.free (E : EnvR T K en ρ dk HS H σ) {D : Addr} (hD : H D = none) : ¬ dkMem dk D ∧ HS D = none ∧ en.H D = none ∧ (∀ (i : Nat) (ds : List PyData), ρ[i]? = some (.own ds) → σ[i]? ≠ some (some (.ref D))) ∧ ∀ (i : Nat) (t : Bool) (kvs : List (PyData × PyData)), ρ[i]? = some (.dct t kvs) → σ[i]? ≠ some (some (.ref D)) := by
  obtain ⟨s0, m0, n0⟩ := E.wd.layOwn (o := .lst []) hD
  refine ⟨m0, n0, ?_, fun i es e1 e2 => ?_, fun i t kvs e1 e2 => ?_⟩
  · cases w : en.H D with
    | none => rfl
    | some o =>
      by_cases me : dkMem en.dk D
      · rcases E.fin.dks with z | z
        · rw [z] at me; exact me.elim
        · rw [z] at m0; exact absurd me m0
      · have := E.fin.fr D o w me
        rw [hD] at this; cases this
  · obtain ⟨x, h1, p', us, rfl, _, _, h', _⟩ := E.slots i _ e1
    rw [e2] at h1
    cases h1
    rw [hD] at h'; cases h'
  · obtain ⟨x, h1, p', us, rfl, _, _, h', _⟩ := E.slots i _ e1
    rw [e2] at h1
    cases h1
    rw [hD] at h'; cases h'
def pairL (g : DTg) (tk tv : DT D) (P : List (D × D) → Prop) (ρ : Envd) : List D → List (D × D) → Prop
  | [], acc => P acc
  | d :: ds, acc => g d ρ fun ρ1 => tk ρ1 fun k => okKey false k ∧ tv ρ1 fun v => acc.length < sizeLine ∧ pairL g tk tv P ρ ds (putD acc k v)
def xDc (it : DT (List D)) (g : DTg) (tk tv : DT D) (vs : List Nat) : Envd → (List (D × D) → Prop) → Prop := fun ρ P => it ρ fun ds => pairL g tk tv P (wipeD vs ρ) ds []
theorem key_of {v : V} {k : Key} (r : Rv K HS v (keyD k)) : v = kV k := by
  cases k <;> cases r <;> rfl
theorem lift_dc {it : DT (List D)} {g : DTg} {tk tv : DT D} {vs ks : List Nat} (sub : ∀ j ∈ ks, j ∈ vs) (σ : L2.St) (H : Hp) (Q : VK) (h : ∃ en ρ dk HS P, EnvR T K en ρ dk HS H σ ∧ xDc it g tk tv vs ρ P ∧ ∀ kvs v HS1 H1, P kvs → Stp T dk HS H HS1 H1 → FrD K dk HS1 H H1 v false kvs → Q v H1) : tDc (lIt T K it) (lG T K ks g) (lT T K xYes) (lE T K tk) (lE T K tv) vs σ H Q := by
  obtain ⟨en, ρ, dk, HS, P, E, q, k⟩ := h
  refine ⟨en, ρ, dk, HS, _, E, q, fun ds J HS1 H1 p s ok D hD => ?_⟩
  have E1 := (E.stp s).wiped vs
  obtain ⟨m0, n0, hDe, ow, od⟩ := E1.free hD
  obtain ⟨s0, _, _⟩ := s.wd.layOwn (o := .dK []) hD
  have hb := s.back hD
  refine ⟨fun i m H' => ∃ HS' acc us, EnvR T K en (wipeD vs ρ) dk HS' H' (wipe σ vs) ∧ Stp T dk HS H HS' H' ∧ Same HS1 HS' ∧ H' D = some (.dK us) ∧ Kvr K HS' keyD us acc ∧ HS' D = none ∧ i + m = ds.length ∧ pairL g tk tv P (wipeD vs ρ) (ds.drop i) acc,
    ⟨ds.length, HS1, [], [], E1.bg2 m0 n0 hDe ow od, s.trans s0, Same.refl _, upd_same, .nil, n0, by omega, p⟩, ?_⟩
  rintro i m H' ⟨HS', acc, us, E', s', sm, hDl, ra, nD, em, q'⟩
  obtain ⟨ok1, ok2⟩ := ok dk HS' H' sm E'.wd
  cases m with
  | zero =>
    have ei : i = ds.length := by omega
    subst ei
    rw [List.drop_length] at q'
    exact .inl ⟨ok2, k acc _ HS' H' q' s' ⟨D, _, rfl, hb, m0, nD, hDl, .inl ⟨rfl, us, rfl, ra⟩⟩⟩
  | succ m =>
    have hi : i < ds.length := by omega
    rw [List.drop_eq_getElem_cons hi] at q'
    obtain ⟨go, y⟩ := ok1 i ds[i] (List.getElem?_eq_getElem hi)
    refine .inr ⟨go, fun H2 => ∃ HS2 acc2 us2, EnvR T K en (wipeD vs ρ) dk HS2 H2 (wipe σ vs) ∧ Stp T dk HS H HS2 H2 ∧ Same HS1 HS2 ∧ H2 D = some (.dK us2) ∧ Kvr K HS2 keyD us2 acc2 ∧ HS2 D = none ∧ pairL g tk tv P (wipeD vs ρ) (ds.drop (i + 1)) acc2, ?_, fun v H'' yv => ?_⟩
    · rintro H2 ⟨HS2, acc2, us2, a1, a2, a3, a4, a5, a6, a7⟩
      exact ⟨m, Nat.lt_succ_self m, HS2, acc2, us2, a1, a2, a3, a4, a5, a6, by omega, a7⟩
    · obtain ⟨HS'', s2, r⟩ := y v H'' yv
      have Ew := E'.stp s2
      have keep : ∀ {HSa Ha HSb Hb : Hp} {us : List (Key × V)}, Stp T dk HSa Ha HSb Hb → Ha D = some (.dK us) → HSa D = none → Hb D = some (.dK us) ∧ HSb D = none := fun {HSa Ha HSb Hb us} st h1 h2 => by
        refine ⟨st.fr D _ h1 m0, ?_⟩
        cases z : HSb D with
        | none => rfl
        | some o =>
          have w := st.new D h2 (by rw [z]; exact fun y => by cases y)
          rw [h1] at w; cases w
      obtain ⟨d2, n2⟩ := keep s2 hDl nD
      refine ⟨en, _, dk, HS'', ds[i], _, Ew, r, q', fun ρ1 σ1 p1 c1 Ea => ⟨wipe_eq sub c1, en, ρ1, dk, HS'', (fun b => b = true ∧ tk ρ1 fun k => okKey false k ∧ tv ρ1 fun v => acc.length < sizeLine ∧ pairL g tk tv P (wipeD vs ρ) (ds.drop (i + 1)) (putD acc k v)), Ea, ⟨rfl, p1⟩, fun b HS3 H3 p3 s3 => ?_⟩⟩
      obtain ⟨rfl, p3⟩ := p3
      obtain ⟨d3, n3⟩ := keep s3 d2 n2
      refine ⟨en, ρ1, dk, HS3, _, Ea.stp s3, p3, fun kd kv HS4 H4 p4 s4 rk => ?_⟩
      obtain ⟨⟨key, rfl⟩, p4⟩ := p4
      obtain ⟨d4, n4⟩ := keep s4 d3 n3
      refine ⟨en, ρ1, dk, HS4, _, (Ea.stp s3).stp s4, p4, fun yd yv HS5 H5 p5 s5 ry => ?_⟩
      obtain ⟨d5, n5⟩ := keep s5 d4 n4
      have s25 := s2.trans (s3.trans (s4.trans s5))
      have ra5 := ra.same s25.sh
      have E5 := (((Ew.stp s3).stp s4).stp s5).bg2 (o := .dK (putK us key yv)) m0 n5 hDe ow od
      refine ⟨us, key, key_of rk, d5, by rw [ra5.len]; exact p5.1, HS5, putD acc (keyD key) yd, putK us key yv, E5, ?_, sm.trans s25.sh, upd_same, ra5.put (fun a b h => keyD_inj h) ry, n5, p5.2⟩
      have st := s'.trans s25
      refine ⟨st.sh, fun b o hbo nb => ?_, st.new, E5.wd⟩
      rw [upd_ne (ne_of_none hbo hb)]
      exact st.fr b o hbo nb
/-- d.update({k: v for ..}) -/
def yDUpd (i : Nat) (t : Envd → (List (D × D) → Prop) → Prop) : DTS := fun P ρ => ∃ kvs, sl ρ i = .dct false kvs ∧ t ρ fun more => kvs.length + more.length ≤ sizeLine ∧ P.nx (ρ.set i (.dct false (mergeD kvs more)))
theorem ds_dupd (i : Nat) {x1 : Str} {p1 : Pos} {kx vx tg iter : Expr} {scope : Scope} {pos apos dpos spos : Pos} {it : DT (List D)} {g : DTg} {tk tv : DT D} {ks : List Nat} (own : List (Str × Nat)) (hN : X.N.Nodup) (hi : DIt T X tg iter it) (ok : BlkOk X.N X.env.scope scope own)
    (hg : ∀ (s : Shared) (H : Hp) (C : Addr) (cl : List (Str × Addr)) (fp : List Addr), DG T (X.blk s H scope (compEnvC scope cl C X.env) fp) tg ks g)
    (hk : ∀ (s : Shared) (H : Hp) (C : Addr) (cl : List (Str × Addr)) (fp : List Addr), DE T (X.blk s H scope (compEnvC scope cl C X.env) fp) kx tk)
    (hv : ∀ (s : Shared) (H : Hp) (C : Addr) (cl : List (Str × Addr)) (fp : List Addr), DE T (X.blk s H scope (compEnvC scope cl C X.env) fp) vx tv)
    (ho : PE X (.Name x1 p1) (tVar i)) (sub : ∀ j ∈ ks, j ∈ own.map (·.2) := by decide) (hc : X.calm = true := by rfl) (hfs : ∀ x, foldedSetIterable iter X.env x = pure x := by intro _; rfl)
    (hab : attributeBase (.Name x1 p1) "update" X.env (eval (.Name x1 p1) X.env) = eval (.Name x1 p1) X.env := by rfl)
    (h30 : ((((backTo pos (starEach [.DictComp kx vx [⟨tg, iter, [], 0⟩] scope dpos] X.env)).all fun x => !x.fst) && (backToKw pos (keywordEach [] X.env)).all fun x => x.fst.isSome) && decide (([Expr.DictComp kx vx [⟨tg, iter, [], 0⟩] scope dpos].length + ([] : List Keyword).length + if ([] : List Keyword).isEmpty = true then 0 else 1) < 30)) = true := by rfl)
    (hl : (apos.endLine == pos.line) = true := by rfl) (hs1 : starEach [.DictComp kx vx [⟨tg, iter, [], 0⟩] scope dpos] X.env = (false, eval (.DictComp kx vx [⟨tg, iter, [], 0⟩] scope dpos) X.env) :: starEach [] X.env := by rfl)
    (hpl : (backTo pos (starEach [] X.env)).any (·.1) = false := by rfl)
    (hs : swapsWith (.Call (.Attribute (.Name x1 p1) "update" apos) [.DictComp kx vx [⟨tg, iter, [], 0⟩] scope dpos] [] pos) none spos.line X.env = pure false := by rfl) :
    DS T X (.Expr (.Call (.Attribute (.Name x1 p1) "update" apos) [.DictComp kx vx [⟨tg, iter, [], 0⟩] scope dpos] [] pos) spos) (yDUpd i (xDc it g tk tv (own.map (·.2)))) :=
  ⟨PS.imp (ps_expr (pe_bm PySem.F.plainAttrs_dict PySem.F.slot_dict_update PySem.F.type_dict_update DU.mt_update ho (pa_cons (pe_dc hc hN hi.pi ok (fun s H C cl fp => (hg s H C cl fp).pg) (fun s H C cl fp => dts_nil.pt) (fun s H C cl fp => (hk s H C cl fp).pe) (fun s H C cl fp => (hv s H C cl fp).pe) hfs) pa_nil hs1) hab h30 hl hs1 hpl) hs) fun De σ H ⟨en, ρ, dk, HS, P, x⟩ => by
    obtain ⟨kvs, hd, q⟩ := x.does
    obtain ⟨p, o, h0, h1, m, n, h2, qv, f⟩ := x.env.dctAt hd
    have qv0 := qv
    rcases qv with ⟨_, us, rfl, qu⟩ | ⟨z, _⟩
    · refine ⟨_, h1, .inr (.inr (.inl ⟨rfl, .inl ⟨us, h2⟩⟩)), lift_dc sub σ H _ ⟨en, ρ, dk, HS, _, x.env, q, fun more v HS1 H1 pd s r => ?_⟩⟩
      obtain ⟨b, o2, rfl, hbn, mb, nb, hb1, dr⟩ := r
      have E1 := x.env.stp s
      obtain ⟨p', o', h0', h1', m', n', h2', qv', f'⟩ := E1.dctAt hd
      rw [h1] at h1'
      cases h1'
      rcases qv' with ⟨_, us', rfl, qu'⟩ | ⟨z, _⟩
      · rcases dr with ⟨_, ms, rfl, qm⟩ | ⟨z, _⟩
        · refine ⟨p, b, us', ms, rfl, rfl, fun e => ?_, h2', hb1, by rw [qu'.len, qm.len]; exact pd.1, ?_⟩
          · subst e
            rw [h2] at hbn
            cases hbn
          · exact x.nx _ dk HS1 _ σ pd.2 (E1.mutD h0' h1 m' n' f' (.inl ⟨rfl, _, rfl, Kvr.merge qm qu'⟩))
        · cases z
      · cases z
    · cases z⟩
end
end DL

namespace DL
open PySem PySem.Spec PyProof.Rows L2
/-! ### len of a dict of one's own -/
def xDLen (i : Nat) : DT D := fun ρ P => ∃ t kvs, sl ρ i = .dct t kvs ∧ P (.int (kvs.length : Int))
section
variable {T : DKd} {X : Cx} {K : PySem.W.Frag} {en : Ent} {ρ ρ1 : Envd} {dk : DkA} {HS H HS1 H1 : Hp} {σ σ1 : L2.St}
theorem d_dlen (i : Nat) {x1 : Str} {p p1 pos : Pos} (hg : Gl X "len") (hm : X.mg "len" = none) (ho : PE X (.Name x1 p1) (tVar i))
    (he : starEach [.Name x1 p1] X.env = (false, eval (.Name x1 p1) X.env) :: starEach [] X.env := by rfl) (hpl : (backTo pos (starEach [] X.env)).any (·.1) = false := by rfl) : DE T X (.Call (.Name "len" p) [.Name x1 p1] [] pos) (xDLen i) :=
  ⟨PE.imp (pe_callB (CallR.or call_lenD call_len_dT) hg hm (by rfl) (pa_cons ho pa_nil he) (by decide) (by decide) he hpl) fun σ H Q ⟨en, ρ, dk, HS, P, E, q, k⟩ => by
    obtain ⟨t, kvs, hd, q⟩ := q
    obtain ⟨p, o, h0, h1, m, n, h2, qv, f⟩ := E.dctAt hd
    refine ⟨_, h1, ?_⟩
    rcases qv with ⟨_, us, rfl, qu⟩ | ⟨_, us, rfl, qu⟩
    · exact .inl ⟨p, us, rfl, h2, k _ _ HS H q (Stp.refl E.wd) (by rw [qu.len]; exact .int _)⟩
    · exact .inr ⟨p, us, rfl, h2, k _ _ HS H q (Stp.refl E.wd) (by rw [qu.len]; exact .int _)⟩⟩
/-! ### lists of one's own within a list of one's own: made, added to in a loop, then let go -/
structure Bg (en : Ent) (ρ : Envd) (dk : DkA) (HS : Hp) (σ : L2.St) (x : Addr) : Prop where
  m : ¬ dkMem dk x
  n : HS x = none
  f : en.H x = none
  ow : ∀ (i : Nat) (ds : List PyData), ρ[i]? = some (.own ds) → σ[i]? ≠ some (some (.ref x))
  od : ∀ (i : Nat) (t : Bool) (kvs : List (PyData × PyData)), ρ[i]? = some (.dct t kvs) → σ[i]? ≠ some (some (.ref x))
theorem EnvR.bgOf (E : EnvR T K en ρ dk HS H σ) {x : Addr} (h : H x = none) : Bg en ρ dk HS σ x := by
  obtain ⟨a, b, c, d, e⟩ := E.free h
  exact ⟨a, b, c, d, e⟩
theorem Bg.stp {x : Addr} {o : HO} (b : Bg en ρ dk HS σ x) (s : Stp T dk HS H HS1 H1) (h : H x = some o) : Bg en ρ dk HS1 σ x :=
  ⟨b.m, (by
    cases z : HS1 x with
    | none => rfl
    | some o' =>
      have w := s.new x b.n (by rw [z]; exact fun y => by cases y)
      rw [h] at w; cases w), b.f, b.ow, b.od⟩
structure SetV (ks : List Nat) (ρ ρ1 : Envd) : Prop where
  out : ∀ j, j ∉ ks → ρ1[j]? = ρ[j]?
  ins : ∀ (j : Nat) (s : Slot), j ∈ ks → ρ1[j]? = some s → ∃ d, s = .val d
def GS (ks : List Nat) (g : DTg) : Prop := ∀ d ρ (P Q : Envd → Prop), g d ρ P → (∀ ρ1, P ρ1 → SetV ks ρ ρ1 → Q ρ1) → g d ρ Q
def GSs (ks : List Nat) (g : DTgs) : Prop := ∀ ds ρ (P Q : Envd → Prop), g ds ρ P → (∀ ρ1, P ρ1 → SetV ks ρ ρ1 → Q ρ1) → g ds ρ Q
theorem gs_name (i : Nat) : GS [i] (gV i) := fun d ρ P Q h k => k _ h ⟨fun j hj => List.getElem?_set_ne (fun e => hj (by rw [e]; exact List.mem_singleton.mpr rfl)), fun j s hj e => by
  obtain rfl := List.mem_singleton.mp hj
  rcases get_set e with ⟨_, rfl⟩ | ⟨ne, _⟩
  · exact ⟨_, rfl⟩
  · exact absurd rfl ne⟩
theorem gss_nil : GSs [] gNil' := fun ds ρ P Q h k => ⟨h.1, k _ h.2 ⟨fun _ _ => rfl, fun j s hj => by cases hj⟩⟩
theorem SetV.trans {ks ks2 : List Nat} {ρ ρ1 ρ2 : Envd} (a : SetV ks ρ ρ1) (b : SetV ks2 ρ1 ρ2) : SetV (ks ++ ks2) ρ ρ2 :=
  ⟨fun j hj => (b.out j fun h => hj (List.mem_append_right _ h)).trans (a.out j fun h => hj (List.mem_append_left _ h)), fun j s hj e => by
    by_cases c : j ∈ ks2
    · exact b.ins j s c e
    · exact a.ins j s ((List.mem_append.mp hj).resolve_right c) (by rw [← b.out j c]; exact e)⟩
theorem gss_cons {ks ks2 : List Nat} {g : DTg} {gs : DTgs} (a : GS ks g) (b : GSs ks2 gs) : GSs (ks ++ ks2) (gCons' g gs) := fun ds ρ P Q h k => by
  obtain ⟨d, r, e, q⟩ := h
  exact ⟨d, r, e, a d ρ _ _ q fun ρ1 h1 s1 => b r ρ1 _ _ h1 fun ρ2 h2 s2 => k ρ2 h2 (s1.trans s2)⟩
theorem gs_tup {ks : List Nat} {gs : DTgs} (a : GSs ks gs) : GS ks (gT gs) := fun d ρ P Q h k => by
  obtain ⟨ds, e, q⟩ := h
  exact ⟨ds, e, a ds ρ _ _ q k⟩
theorem Bg.setV {ks : List Nat} {x : Addr} (b : Bg en ρ dk HS σ x) (s : SetV ks ρ ρ1) (c : Chg ks σ σ1) : Bg en ρ1 dk HS σ1 x :=
  ⟨b.m, b.n, b.f, fun i ds e1 e2 => by
    by_cases h : i ∈ ks
    · obtain ⟨d, z⟩ := s.ins i _ h e1
      cases z
    · exact b.ow i ds (by rw [← s.out i h]; exact e1) (by rw [← c.2 i h]; exact e2), fun i t kvs e1 e2 => by
    by_cases h : i ∈ ks
    · obtain ⟨d, z⟩ := s.ins i _ h e1
      cases z
    · exact b.od i t kvs (by rw [← s.out i h]; exact e1) (by rw [← c.2 i h]; exact e2)⟩
structure Nst (K : PySem.W.Frag) (en : Ent) (ρ : Envd) (dk : DkA) (HS H : Hp) (σ : L2.St) (i : Nat) (p : Addr) (qs : List Addr) (lss : List (List D)) : Prop where
  at_ : σ[i]? = some (some (.ref p))
  hp : H p = some (.lst (qs.map V.ref))
  nd : (p :: qs).Nodup
  bg : ∀ x ∈ p :: qs, Bg en ρ dk HS σ x
  len : qs.length = lss.length
  it : ∀ (k : Nat) (q : Addr) (l : List D), qs[k]? = some q → lss[k]? = some l → ∃ vs, H q = some (.lst vs) ∧ Rvs K HS vs l
variable {i : Nat} {p : Addr} {qs : List Addr} {lss : List (List D)}
theorem Nst.has (N : Nst K en ρ dk HS H σ i p qs lss) {x : Addr} (h : x ∈ p :: qs) : ∃ vs, H x = some (.lst vs) := by
  rcases List.mem_cons.mp h with rfl | h
  · exact ⟨_, N.hp⟩
  · obtain ⟨k, hk⟩ := List.getElem?_of_mem h
    have hl : k < lss.length := by rw [← N.len]; exact (List.getElem?_eq_some_iff.mp hk).1
    obtain ⟨vs, h1, _⟩ := N.it k x _ hk (List.getElem?_eq_getElem hl)
    exact ⟨vs, h1⟩
theorem Nst.stp (N : Nst K en ρ dk HS H σ i p qs lss) (s : Stp T dk HS H HS1 H1) : Nst K en ρ dk HS1 H1 σ i p qs lss where
  at_ := N.at_
  hp := s.fr p _ N.hp (N.bg p (List.mem_cons_self ..)).m
  nd := N.nd
  bg := fun x hx => by
    obtain ⟨vs, h⟩ := N.has hx
    exact (N.bg x hx).stp s h
  len := N.len
  it := fun k q l e1 e2 => by
    obtain ⟨vs, h1, h2⟩ := N.it k q l e1 e2
    exact ⟨vs, s.fr q _ h1 (N.bg q (List.mem_cons_of_mem _ (List.mem_of_getElem? e1))).m, dps_same s.sh _ _ h2⟩
theorem Nst.setV {ks : List Nat} (N : Nst K en ρ dk HS H σ i p qs lss) (s : SetV ks ρ ρ1) (c : Chg ks σ σ1) (hi : i ∉ ks) : Nst K en ρ1 dk HS H σ1 i p qs lss :=
  ⟨by rw [c.2 i hi]; exact N.at_, N.hp, N.nd, fun x hx => (N.bg x hx).setV s c, N.len, N.it⟩
theorem Nst.app (N : Nst K en ρ dk HS H σ i p qs lss) {m : Nat} {q : Addr} {l : List D} {vs : List V} {v : V} {d : D} (e1 : qs[m]? = some q) (e2 : lss[m]? = some l) (h : H q = some (.lst vs)) (r : Rvs K HS vs l) (rv : Rv K HS v d) :
    Nst K en ρ dk HS (upd H q (.lst (vs ++ [v]))) σ i p qs (lss.set m (l ++ [d])) := by
  have hq : q ∈ qs := List.mem_of_getElem? e1
  have np : p ≠ q := fun e => (List.nodup_cons.mp N.nd).1 (e ▸ hq)
  refine ⟨N.at_, by rw [upd_ne np]; exact N.hp, N.nd, N.bg, by rw [List.length_set]; exact N.len, fun k q' l' a1 a2 => ?_⟩
  by_cases c : k = m
  · subst c
    rw [e1] at a1
    cases a1
    have hl : k < lss.length := (List.getElem?_eq_some_iff.mp e2).1
    rw [List.getElem?_set_self hl] at a2
    cases a2
    exact ⟨_, upd_same, r.app (.cons rv .nil)⟩
  · rw [List.getElem?_set_ne (Ne.symm c)] at a2
    obtain ⟨us, b1, b2⟩ := N.it k q' l' a1 a2
    have nq : q' ≠ q := fun e => by
      subst e
      have h1 := (List.getElem?_eq_some_iff.mp a1)
      have h2 := (List.getElem?_eq_some_iff.mp e1)
      obtain ⟨l1, z1⟩ := h1
      obtain ⟨l2, z2⟩ := h2
      exact c ((List.getElem_inj (List.nodup_cons.mp N.nd).2).mp (z1.trans z2.symm))
    exact ⟨us, by rw [upd_ne nq]; exact b1, b2⟩
theorem rvs_nest {HS2 : Hp} : ∀ (qs : List Addr) (lss : List (List D)), qs.length = lss.length → (∀ (k : Nat) (q : Addr) (l : List D), qs[k]? = some q → lss[k]? = some l → ∃ vs, HS2 q = some (.lst vs) ∧ Rvs K HS2 vs l) → Rvs K HS2 (qs.map V.ref) (lss.map PyData.list)
  | [], [], _, _ => .nil
  | q :: qs, l :: lss, e, h => by
    obtain ⟨vs, h1, h2⟩ := h 0 q l rfl rfl
    exact .cons (.lst h1 h2) (rvs_nest qs lss (by simpa using e) fun k q' l' a b => h (k + 1) q' l' (by simpa using a) (by simpa using b))
  | [], _ :: _, e, _ => by cases e
  | _ :: _, [], e, _ => by cases e
theorem Nst.done (E : EnvR T K en ρ dk HS H σ) (N : Nst K en ρ dk HS H σ i p qs lss) : ∃ HS2, EnvR T K en (ρ.set i (.val (.list (lss.map PyData.list)))) dk HS2 H σ := by
  classical
  obtain ⟨HS2, hHS⟩ : ∃ HS2 : Hp, HS2 = fun b => if b ∈ p :: qs then H b else HS b := ⟨_, rfl⟩
  have inn : ∀ b, b ∈ p :: qs → HS2 b = H b := fun b hb => by rw [hHS]; exact if_pos hb
  have out : ∀ b, b ∉ p :: qs → HS2 b = HS b := fun b hb => by rw [hHS]; exact if_neg hb
  have sm : Same HS HS2 := fun b o z => by
    rw [out b fun hb => by rw [(N.bg b hb).n] at z; cases z]
    exact z
  refine ⟨HS2, ⟨⟨fun b o z => ?_, fun b mb => ?_, E.wd.dkc⟩, E.fin.sh.trans sm, E.fin.fr, fun b z z' => ?_, E.fin.dks, E.fin.dkf⟩, by rw [List.length_set, E.len], fun j s e' => ?_, fun j k ds1 es p' e1 e2 e3 e4 => ?_, fun j ds1 p' e1 e3 => ?_, E.d2.setK fun _ _ z => by cases z⟩
  · by_cases c : b ∈ p :: qs
    · rw [inn b c] at z; exact z
    · rw [out b c] at z; exact E.wd.sub b o z
  · rw [out b fun c => (N.bg b c).m mb]; exact E.wd.off b mb
  · by_cases c : b ∈ p :: qs
    · exact (N.bg b c).f
    · rw [out b c] at z'; exact E.fin.new b z z'
  · rcases get_set e' with ⟨rfl, rfl⟩ | ⟨ne, e'⟩
    · refine ⟨_, N.at_, _, rfl, .lst ((inn p (List.mem_cons_self ..)).trans N.hp) (rvs_nest qs lss N.len fun k q l a b => ?_)⟩
      obtain ⟨vs, h1, h2⟩ := N.it k q l a b
      exact ⟨vs, (inn q (List.mem_cons_of_mem _ (List.mem_of_getElem? a))).trans h1, dps_same sm _ _ h2⟩
    · obtain ⟨x, h1, h2⟩ := E.slots j s e'
      refine ⟨x, h1, ?_⟩
      cases s with
      | own es =>
        obtain ⟨p', us, rfl, m', n', h', q'⟩ := h2
        exact ⟨p', us, rfl, m', by rw [out p' fun c => (N.bg p' c).ow j es e' h1]; exact n', h', dps_same sm _ _ q'⟩
      | nil => trivial
      | val d =>
        obtain ⟨v, e1, r⟩ := h2
        exact ⟨v, e1, dp_same sm _ _ r⟩
      | deck => exact h2
      | dct u kvs =>
        obtain ⟨p', o, rfl, m', n', h', q'⟩ := h2
        exact ⟨p', o, rfl, m', by rw [out p' fun c => (N.bg p' c).od j u kvs e' h1]; exact n', h', q'.same sm⟩
  · rcases get_set e1 with ⟨rfl, z⟩ | ⟨n1, e1⟩
    · cases z
    · rcases get_set e2 with ⟨rfl, z⟩ | ⟨n2, e2⟩
      · cases z
      · exact E.dist j k ds1 es p' e1 e2 e3 e4
  · rcases get_set e1 with ⟨rfl, z⟩ | ⟨n1, e1⟩
    · cases z
    · exact E.fresh j ds1 p' e1 e3
def nstL (g : DTg) (ti te : DT D) (P : List (List D) → Envd → Prop) : List D → List (List D) → Envd → Prop
  | [], lss, ρ => P lss ρ
  | d :: ds, lss, ρ => g d ρ fun ρ1 => ti ρ1 fun n => ∃ k m l, n = .int k ∧ ixN lss.length k = some m ∧ lss[m]? = some l ∧ te ρ1 fun v => l.length < sizeLine ∧ nstL g ti te P ds (lss.set m (l ++ [v])) ρ1
/-- the loop that adds -/
def lNst (T : DKd) (K : PySem.W.Frag) (i : Nat) (it : DT (List D)) (g : DTg) (ti te : DT D) : TS := fun De σ H => ∃ en ρ dk HS p qs lss P, EnvR T K en ρ dk HS H σ ∧ Nst K en ρ dk HS H σ i p qs lss ∧ (it ρ fun ds => nstL g ti te P ds lss ρ) ∧
  ∀ lss' ρ1 HS1 H1 σ1, P lss' ρ1 → EnvR T K en ρ1 dk HS1 H1 σ1 → Nst K en ρ1 dk HS1 H1 σ1 i p qs lss' → De.nx σ1 H1
theorem nst_for (i : Nat) {y : Str} {tg iter ix e : Expr} {it : DT (List D)} {ks : List Nat} {g : DTg} {ti te : DT D} {p1 sp ap cp ep pos : Pos} (hi : DIt T X tg iter it) (hg : DG T X tg ks g) (gs : GS ks g) (hy : PE X (.Name y p1) (tVar i)) (hix : DE T X ix ti) (he : DE T X e te) (hik : i ∉ ks := by decide)
    (hpx : PlainIx ix := by exact fun _ _ => rfl) (hp : PassesOwn (model X.prog X.w) X.A X.env X.xe := by exact PassesOwn.never) (hc : X.calm = true := by rfl) (hs : ∀ x, foldedSetIterable iter X.env x = pure x := by intro _; rfl)
    (hab : attributeBase (.Subscript (.Name y p1) ix sp) "append" X.env (eval (.Subscript (.Name y p1) ix sp) X.env) = eval (.Subscript (.Name y p1) ix sp) X.env := by rfl)
    (h30 : ((((backTo cp (starEach [e] X.env)).all fun x => !x.fst) && (backToKw cp (keywordEach [] X.env)).all fun x => x.fst.isSome) && decide (([e].length + ([] : List Keyword).length + if ([] : List Keyword).isEmpty = true then 0 else 1) < 30)) = true := by rfl)
    (hl : (ap.endLine == cp.line) = true := by rfl) (hs1 : starEach [e] X.env = (false, eval e X.env) :: starEach [] X.env := by rfl) (hpl : (backTo cp (starEach [] X.env)).any (·.1) = false := by rfl)
    (hsw : swapsWith (.Call (.Attribute (.Subscript (.Name y p1) ix sp) "append" ap) [e] [] cp) none ep.line X.env = pure false := by rfl) :
    PS X (.For tg iter [.Expr (.Call (.Attribute (.Subscript (.Name y p1) ix sp) "append" ap) [e] [] cp) ep] [] pos) (lNst T X.K i it g ti te) :=
  PS.imp (ps_for hp hc hi.pi hg.pg (pss_one (ps_expr (pe_bm PySem.F.plainAttrs_list PySem.F.slot_list_append PySem.F.type_list_append mt_append (pe_ix ix_list hy hix.pe hpx) (pa_cons he.pe pa_nil hs1) hab h30 hl hs1 hpl) hsw)) hs) fun De σ H h => by
    obtain ⟨en, ρ, dk, HS, p, qs, lss, P, E, N, q, k⟩ := h
    refine ⟨en, ρ, dk, HS, _, E, q, fun ds J HS1 H1 q1 s ok => ?_⟩
    refine ⟨fun i' m σ' H' => ∃ ρ' HS' lss', EnvR T X.K en ρ' dk HS' H' σ' ∧ Nst X.K en ρ' dk HS' H' σ' i p qs lss' ∧ Same HS1 HS' ∧ i' + m = ds.length ∧ nstL g ti te P (ds.drop i') lss' ρ', ⟨ds.length, ρ, HS1, lss, E.stp s, N.stp s, Same.refl _, by omega, q1⟩, ?_⟩
    rintro i' m σ' H' ⟨ρ', HS', lss', E', N', sm, em, q'⟩
    obtain ⟨ok1, ok2⟩ := ok dk HS' H' sm E'.wd
    cases m with
    | zero =>
      have ei : i' = ds.length := by omega
      subst ei
      rw [List.drop_length] at q'
      exact .inl ⟨ok2, k _ _ _ _ _ q' E' N'⟩
    | succ m =>
      have hi : i' < ds.length := by omega
      rw [List.drop_eq_getElem_cons hi] at q'
      obtain ⟨go, yy⟩ := ok1 i' ds[i'] (List.getElem?_eq_getElem hi)
      refine .inr ⟨go, fun σ2 H2 => ∃ ρ2 HS2 lss2, EnvR T X.K en ρ2 dk HS2 H2 σ2 ∧ Nst X.K en ρ2 dk HS2 H2 σ2 i p qs lss2 ∧ Same HS1 HS2 ∧ nstL g ti te P (ds.drop (i' + 1)) lss2 ρ2, ?_, fun v H'' yv => ?_⟩
      · rintro σ2 H2 ⟨ρ2, HS2, lss2, a1, a2, a3, a4⟩
        exact ⟨m, Nat.lt_succ_self m, ρ2, HS2, lss2, a1, a2, a3, by omega, a4⟩
      · obtain ⟨HS'', s2, r⟩ := yy v H'' yv
        refine ⟨en, ρ', dk, HS'', ds[i'], _, E'.stp s2, r, gs _ _ _ (fun ρ1 => (ti ρ1 fun n => ∃ k m l, n = .int k ∧ ixN lss'.length k = some m ∧ lss'[m]? = some l ∧ te ρ1 fun v => l.length < sizeLine ∧ nstL g ti te P (ds.drop (i' + 1)) (lss'.set m (l ++ [v])) ρ1) ∧ SetV ks ρ' ρ1) q' fun ρ1 h1 h2 => ⟨h1, h2⟩, fun ρ1 σ1 h1 c1 Ea => ?_⟩
        obtain ⟨h1, sv⟩ := h1
        have Na := (N'.stp s2).setV sv c1 hik
        refine ⟨_, Na.at_, en, ρ1, dk, HS'', _, Ea, h1, fun d2 v2 HS3 H3 p3 s3 r3 => ?_⟩
        obtain ⟨kk, mm, l, rfl, hix2, hl2, p3⟩ := p3
        cases r3
        have N3 := Na.stp s3
        have hmm : mm < qs.length := by rw [N3.len]; exact (List.getElem?_eq_some_iff.mp hl2).1
        have hq : qs[mm]? = some qs[mm] := List.getElem?_eq_getElem hmm
        obtain ⟨vs, hv1, hv2⟩ := N3.it mm _ l hq hl2
        refine ⟨p, qs.map V.ref, kk, .ref qs[mm], rfl, rfl, SqL.of N3.hp, ?_, .inl ⟨rfl, vs, SqL.of hv1⟩, en, ρ1, dk, HS3, _, Ea.stp s3, p3, fun d4 v4 HS4 H4 p4 s4 r4 => ?_⟩
        · unfold atI
          rw [List.length_map, N3.len, hix2]
          show (qs.map V.ref)[mm]? = _
          rw [List.getElem?_map, hq]
          rfl
        · have N4 := N3.stp s4
          have hv4 := s4.fr _ _ hv1 (N3.bg _ (List.mem_cons_of_mem _ (List.mem_of_getElem? hq))).m
          have hr4 := dps_same s4.sh _ _ hv2
          have b := N4.bg _ (List.mem_cons_of_mem _ (List.mem_of_getElem? hq))
          exact ⟨qs[mm], vs, v4, rfl, rfl, hv4, by rw [hr4.len]; exact p4.1, ρ1, HS4, lss'.set mm (l ++ [d4]), ((Ea.stp s3).stp s4).bg2 b.m b.n b.f b.ow b.od, N4.app hq hl2 hv4 hr4 r4, sm.trans (s2.sh.trans (s3.sh.trans s4.sh)), p4.2⟩
theorem lift_nl {it : DT (List D)} {vs : List Nat} {j : Nat} (hj : j ∈ vs) (σ : L2.St) (H : Hp) (Q : VK) (h : ∃ en ρ dk HS, ∃ P : List D → Prop, EnvR T K en ρ dk HS H σ ∧ (it ρ fun ds => ds.length ≤ sizeLine ∧ P ds) ∧
    ∀ (ds : List PyData) (D : Addr) (qs : List Addr) (HS1 H1 : Hp), P ds → qs.length = ds.length → Stp T dk HS H HS1 H1 → H1 D = some (.lst (qs.map V.ref)) → (D :: qs).Nodup → (∀ x ∈ D :: qs, H x = none ∧ HS1 x = none) → (∀ q ∈ qs, H1 q = some (.lst [])) → Q (.ref D) H1) :
    tLc (lIt T K it) (lG T K [j] (gV j)) (lT T K xYes) (tLst tNil) vs σ H Q := by
  obtain ⟨en, ρ, dk, HS, P, E, q, k⟩ := h
  refine ⟨en, ρ, dk, HS, _, E, q, fun ds J HS1 H1 p s ok D hD => ?_⟩
  have E1 := (E.stp s).wiped vs
  obtain ⟨m0, n0, hDe, ow, od⟩ := E1.free hD
  obtain ⟨s0, _, _⟩ := s.wd.layOwn (o := .lst []) hD
  have hb := s.back hD
  refine ⟨fun i m H' => ∃ HS' qs, EnvR T K en (wipeD vs ρ) dk HS' H' (wipe σ vs) ∧ Stp T dk HS H HS' H' ∧ Same HS1 HS' ∧ H' D = some (.lst (qs.map V.ref)) ∧ HS' D = none ∧ (D :: qs).Nodup ∧ (∀ q ∈ qs, H q = none ∧ H' q = some (.lst []) ∧ HS' q = none ∧ ¬ dkMem dk q) ∧ qs.length = i ∧ i + m = ds.length,
    ⟨ds.length, HS1, [], E1.bg2 m0 n0 hDe ow od, s.trans s0, Same.refl _, upd_same, n0, by simp, (fun q hq => by cases hq), rfl, by omega⟩, ?_⟩
  rintro i m H' ⟨HS', qs, E', s', sm, hDl, nD, nd, hqs, ql, em⟩
  obtain ⟨ok1, ok2⟩ := ok dk HS' H' sm E'.wd
  cases m with
  | zero =>
    have ei : i = ds.length := by omega
    subst ei
    exact .inl ⟨ok2, k ds D qs HS' H' p.2 ql s' hDl nd (fun x hx => by
      rcases List.mem_cons.mp hx with rfl | hx
      · exact ⟨hb, nD⟩
      · exact ⟨(hqs x hx).1, (hqs x hx).2.2.1⟩) fun q hq => (hqs q hq).2.1⟩
  | succ m =>
    have hi : i < ds.length := by omega
    obtain ⟨go, y⟩ := ok1 i ds[i] (List.getElem?_eq_getElem hi)
    refine .inr ⟨go, fun H2 => ∃ HS2 qs2, EnvR T K en (wipeD vs ρ) dk HS2 H2 (wipe σ vs) ∧ Stp T dk HS H HS2 H2 ∧ Same HS1 HS2 ∧ H2 D = some (.lst (qs2.map V.ref)) ∧ HS2 D = none ∧ (D :: qs2).Nodup ∧ (∀ q ∈ qs2, H q = none ∧ H2 q = some (.lst []) ∧ HS2 q = none ∧ ¬ dkMem dk q) ∧ qs2.length = i + 1, ?_, fun v H'' yv => ?_⟩
    · rintro H2 ⟨HS2, qs2, a1, a2, a3, a4, a5, a6, a7, a8⟩
      exact ⟨m, Nat.lt_succ_self m, HS2, qs2, a1, a2, a3, a4, a5, a6, a7, a8, by omega⟩
    · obtain ⟨HS'', s2, r⟩ := y v H'' yv
      have Ew := E'.stp s2
      have keep : ∀ {HSa Ha HSb Hb : Hp} {x : Addr} {o : HO}, Stp T dk HSa Ha HSb Hb → ¬ dkMem dk x → Ha x = some o → HSa x = none → Hb x = some o ∧ HSb x = none := fun {HSa Ha HSb Hb x o} st mx h1 h2 => by
        refine ⟨st.fr x _ h1 mx, ?_⟩
        cases z : HSb x with
        | none => rfl
        | some o =>
          have w := st.new x h2 (by rw [z]; exact fun y => by cases y)
          rw [h1] at w; cases w
      refine ⟨en, _, dk, HS'', ds[i], (fun _ => True), Ew, r, trivial, fun ρ1 σ1 _ c1 Ea => ⟨wipe_eq (fun a ha => by rw [List.mem_singleton.mp ha]; exact hj) c1, en, ρ1, dk, HS'', (fun b => b = true), Ea, rfl, fun b HS3 H3 p3 s3 => ?_⟩⟩
      subst p3
      have s23 := s2.trans s3
      obtain ⟨d3, n3⟩ := keep s23 m0 hDl nD
      have E3 := Ew.stp s3
      refine ⟨Nat.zero_le _, fun q hq => ?_⟩
      obtain ⟨mq, nq, fq, owq, odq⟩ := E3.free hq
      have st := s'.trans s23
      have hq0 := st.back hq
      have qD : D ≠ q := fun e => by rw [← e, d3] at hq; cases hq
      have qq : ∀ x ∈ qs, x ≠ q := fun x hx e => by
        obtain ⟨_, a2, a3, a4⟩ := hqs x hx
        have := (keep s23 a4 a2 a3).1
        rw [e, hq] at this; cases this
      have E4 := E3.bg2 (o := .lst []) mq nq fq owq odq
      have E5 := E4.bg2 (o := .lst (qs.map V.ref ++ [.ref q])) m0 n3 hDe ow od
      refine ⟨qs.map V.ref, by rw [upd_ne qD]; exact d3, by rw [List.length_map, ql]; exact Nat.lt_of_lt_of_le hi p.1, HS3, qs ++ [q], E5, ?_, sm.trans s23.sh, by rw [upd_same, List.map_append]; rfl, n3, ?_, fun x hx => ?_, by rw [List.length_append, ql]; rfl⟩
      · refine ⟨st.sh, fun b o hbo nb => ?_, st.new, E5.wd⟩
        rw [upd_ne (ne_of_none hbo hb), upd_ne (ne_of_none hbo hq0)]
        exact st.fr b o hbo nb
      · have h1 := List.nodup_cons.mp nd
        rw [List.nodup_cons, List.nodup_append]
        refine ⟨fun hx => ?_, h1.2, by simp, fun a ha b hb' => ?_⟩
        · rcases List.mem_append.mp hx with hx | hx
          · exact h1.1 hx
          · exact qD (List.mem_singleton.mp hx)
        · rw [List.mem_singleton.mp hb']; exact qq a ha
      · rcases List.mem_append.mp hx with hx | hx
        · obtain ⟨a1, a2, a3, a4⟩ := hqs x hx
          obtain ⟨b1, b2⟩ := keep s23 a4 a2 a3
          have xD : x ≠ D := fun e => (List.nodup_cons.mp nd).1 (e ▸ hx)
          exact ⟨a1, by rw [upd_ne xD, upd_ne (qq x hx)]; exact b1, b2, a4⟩
        · obtain rfl := List.mem_singleton.mp hx
          exact ⟨hq0, by rw [upd_ne (Ne.symm qD)]; exact upd_same, nq, mq⟩
/-- x = [[] for j in ..]; for .. in ..: x[i].append(e); .. -/
def yNest (i : Nat) (it1 it2 : DT (List D)) (g : DTg) (ti te : DT D) (t : DTS) : DTS := fun P ρ => i < ρ.length ∧ it1 ρ fun ds1 => ds1.length ≤ sizeLine ∧ it2 (ρ.set i .nil) fun ds2 => nstL g ti te (fun lss ρ1 => At (t P) (ρ1.set i (.val (.list (lss.map PyData.list))))) ds2 (List.replicate ds1.length []) (ρ.set i .nil)
theorem dss_nest (i j : Nat) {y : Str} {py lp : Pos} {tg1 iter1 : Expr} {scope : Scope} {own : List (Str × Nat)} {pos1 spos : Pos} {tg iter ix e : Expr} {rest : List Stmt} {it1 it2 : DT (List D)} {g : DTg} {ti te : DT D} {t : DTS} {p1 sp ap cp ep pos : Pos}
    (hN : X.N.Nodup) (hi1 : DIt T X tg1 iter1 it1) (ok : BlkOk X.N X.env.scope scope own) (hg1 : ∀ (s : Shared) (H : Hp) (C : Addr) (cl : List (Str × Addr)) (fp : List Addr), DG T (X.blk s H scope (compEnvC scope cl C X.env) fp) tg1 [j] (gV j))
    (hsw1 : swapsWith (.ListComp (.List [] lp) [⟨tg1, iter1, [], 0⟩] scope pos1) (some (.Name y py)) spos.line X.env = pure true)
    (h2 : PS X (.For tg iter [.Expr (.Call (.Attribute (.Subscript (.Name y p1) ix sp) "append" ap) [e] [] cp) ep] [] pos) (lNst T X.K i it2 g ti te)) (hr : DSs T X rest t)
    (hyi : X.N[i]? = some y := by rfl) (hyl : X.env.scope.names.lookup y = some .local := by rfl) (hj : j ∈ own.map (·.2) := by decide) (hc : X.calm = true := by rfl) (hs1 : ∀ x, foldedSetIterable iter1 X.env x = pure x := by intro _; rfl) :
    DSs T X (.Assign [.Name y py] (.ListComp (.List [] lp) [⟨tg1, iter1, [], 0⟩] scope pos1) spos :: .For tg iter [.Expr (.Call (.Attribute (.Subscript (.Name y p1) ix sp) "append" ap) [e] [] cp) ep] [] pos :: rest) (yNest i it1 it2 g ti te t) :=
  ⟨PSs.imp (pss_cons (ps_setLc (g := lG T X.K [j] (gV j)) (tt := lT T X.K xYes) hc hN hyi hyl hsw1 hi1.pi ok (fun s H C cl fp => (hg1 s H C cl fp).pg) (fun s H C cl fp => (dts_nil (T := T) (X := X.blk s H scope (compEnvC scope cl C X.env) fp)).pt) (fun s H C cl fp => pe_lst pa_nil) hs1) (pss_cons h2 hr.ps)) fun De σ H ⟨en, ρ, dk, HS, P, x⟩ => by
    have go := lift_nl (it := it1) hj σ H (fun v H1 => tSeq (lNst T X.K i it2 g ti te) (lS T X.K t) De (σ.set i (some v)) H1) ⟨en, ρ, dk, HS, _, x.env, x.does.2, fun ds D qs HS1 H1 pd ql st hD nd hx hqs => ?_⟩
    · exact go
    have E1 := (x.env.stp st).forget (i := i) (some (.ref D))
    have hil : i < σ.length := by
      rw [x.env.len]
      exact x.does.1
    have N1 : Nst X.K en (ρ.set i .nil) dk HS1 H1 (σ.set i (some (.ref D))) i D qs (List.replicate ds.length []) := by
      refine ⟨List.getElem?_set_self hil, hD, nd, fun z hz => ?_, by rw [ql, List.length_replicate], fun k q l a1 a2 => ?_⟩
      · obtain ⟨hz0, hz1⟩ := hx z hz
        have b := x.env.bgOf hz0
        refine ⟨b.m, hz1, b.f, fun k es e1 e2 => ?_, fun k u kvs e1 e2 => ?_⟩
        · rcases get_set e1 with ⟨_, z⟩ | ⟨n1, e1⟩
          · cases z
          · rw [List.getElem?_set_ne n1] at e2
            exact b.ow k es e1 e2
        · rcases get_set e1 with ⟨_, z⟩ | ⟨n1, e1⟩
          · cases z
          · rw [List.getElem?_set_ne n1] at e2
            exact b.od k u kvs e1 e2
      · obtain rfl : l = [] := by
          rw [List.getElem?_replicate] at a2
          split at a2
          · exact (Option.some.inj a2).symm
          · cases a2
        exact ⟨[], hqs q (List.mem_of_getElem? a1), .nil⟩
    exact ⟨en, ρ.set i .nil, dk, HS1, D, qs, _, _, E1, N1, pd, fun lss' ρ1 HS2 H2 σ2 h E2 N2 => by
      obtain ⟨HS3, E3⟩ := N2.done E2
      exact ⟨en, _, dk, HS3, P, E3, h.run, x.nx, x.rt, x.bk, x.ct⟩⟩⟩
end
end DL

namespace HT
open PySem PySem.Spec PyProof.Rows L2
/-! ### a tuple no times -/
theorem tuple_mul0 (l : Addr) (items : Array Value) (n : Nat) (dd : Option Addr) (sl : Array (Option Value)) (x : Int) (u : Tok) (c0 : (decide (x < -(2 ^ 63)) || decide (x ≥ 2 ^ 63)) = false) (c1 : (items.isEmpty || x == 1) = false) (c2 : (decide (x ≤ 0) || items.isEmpty) = true) :
    Meets (Builtin.«tuple.__mul__» ⟨[.ref l, .int x u], []⟩) (fun _ R s => s.heap.get? l = some { cls := .type "tuple", dict := dd, data := .seq items n, slots := sl } ∧ R (.ok (.ret (Value.ref s.heap.objs.size))) { s with heap := s.heap.push { cls := .type "tuple", data := .seq #[] } }) :=
  .of_wp fun prog w A R s h => by
    obtain ⟨hp, g, d, tk, os⟩ := s
    obtain ⟨hl, h⟩ := h
    have f1 := AutoSeq1.idx_int
    wp_walk using AutoSeq1.wpAny_loadPart' hl
    refine wpAny_ite_false (decide_eq_false (by rw [c0]; exact Bool.false_ne_true)) ?_
    wp_walk using AutoSeq1.wpAny_loadPart' hl
    exact ⟨_, rfl, h⟩
/-- t * k is () for k below 1 -/
theorem op_rep0 {X : Cx} : OpR X (binaryOp .Mult) (fun x y H Q => ∃ l xs k, x = .ref l ∧ y = .int k ∧ xs ≠ [] ∧ -(2 ^ 63) ≤ k ∧ k ≤ 0 ∧ SqT X.K H l xs ∧ ∀ p, H p = none → Q (.ref p) (upd H p (.tup []))) := by
  intro pins s σ H x y v u Q I rx ry h
  obtain ⟨l, xs, k, rfl, rfl, hne, k0, k1, hT, q⟩ := h
  cases rx
  obtain ⟨t, rfl⟩ := ry
  obtain ⟨its, r, ⟨⟨cls, dd, data, sl⟩, ho, hc, n, hd⟩, hs⟩ := I.tuple hT
  simp only at hc hd
  subst hc hd
  have hi : its.toArray.isEmpty = false := by
    cases r with
    | nil => exact absurd rfl hne
    | cons _ _ => rfl
  have c0 : (decide (k < -(2 ^ 63)) || decide (k ≥ 2 ^ 63)) = false := by
    rw [Bool.or_eq_false_iff, decide_eq_false_iff_not, decide_eq_false_iff_not]
    omega
  have c1 : (its.toArray.isEmpty || k == 1) = false := by
    rw [hi, Bool.false_or]
    simp
    omega
  have c2 : (decide (k ≤ 0) || its.toArray.isEmpty) = true := by rw [decide_eq_true k1]; rfl
  have new : ObjOk X.prog X.w (upd H s.heap.objs.size (.tup [])) (s.heap.push { cls := .type "tuple", data := .seq #[] }) s.heap.objs.size (.tup []) := ⟨by show 0 ≤ sizeLine; decide, [], .nil, ⟨_, Heap.get?_push_size _ rfl, rfl, _, rfl⟩⟩
  exact wpAny_binaryOp_repeat_ref (T := "tuple") (U := "int") (by decide) ⟨_, ho, rfl⟩ (fun s' => typeIs_int s' k t) noFill_tuple_mul F.fills_int_mul F.slot_int_rmul repeat_tuple F.slot_int_index.lookup
    (call_meets F.slot_int_rmul (typeIs_int s k t) F.entry_int_rmul (F.args_int_rmul_2 _ _) (int_rmul_tuple k t l its.toArray n dd sl)
      ⟨ho, rfl, ⟨_, ho, rfl⟩, call_meets F.slot_tuple_mul ⟨_, ho, rfl⟩ F.entry_tuple_mul (F.args_tuple_mul_2 _ _) (tuple_mul0 l its.toArray n dd sl k t c0 c1 c2)
        ⟨ho, .ref s.heap.objs.size, _, I.turnedNew (t' := s.toks) (ch := []) (fun b o _ z => Heap.get?_push_of_some _ z) (fun b hb => by cases hb) (Nat.le_refl _) new, rfl, q _ (I.hok.fresh (Nat.le_refl _))⟩⟩)
end HT
namespace DL
open PySem PySem.Spec PyProof.Rows L2
def oMulZ : D → D → Option D
  | .tuple a, .int k => if a ≠ [] ∧ -(2 ^ 63) ≤ k ∧ k ≤ 0 then some (.tuple []) else oMul (.tuple a) (.int k)
  | a, b => oMul a b
theorem oMulZ_zero {x : D} : oMulZ (.tuple [x]) (.int 0) = some (.tuple []) := by
  show (if ([x] : List D) ≠ [] ∧ -(2 ^ 63) ≤ (0 : Int) ∧ (0 : Int) ≤ 0 then some (PyData.tuple []) else oMul (.tuple [x]) (.int 0)) = _
  exact if_pos ⟨by simp, by decide, by decide⟩
theorem oMulZ_pos {x : D} {n : Nat} (h : 1 ≤ n) (h2 : n ≤ 1000) : oMulZ (.tuple [x]) (.int (n : Int)) = some (.tuple (List.replicate n x)) := (if_neg fun z => by omega).trans (oMul_tup1 h h2)
theorem oMulZ_all {x : D} {n : Nat} (h2 : n ≤ 1000) : oMulZ (.tuple [x]) (.int (n : Int)) = some (.tuple (List.replicate n x)) := by
  cases n with
  | zero => exact oMulZ_zero
  | succ n => exact oMulZ_pos (by omega) h2
section
variable {T : DKd} {X : Cx}
theorem do_mulZ : OpR X (binaryOp .Mult) (rD T X.K oMulZ) :=
  opr_imp (opr_or HT.op_rep0 do_mul) fun x y H Q q => by
    obtain ⟨dk, HS, dx, dy, dz, w, rx, ry, e, k⟩ := q
    by_cases c : ∃ a n, dx = .tuple a ∧ dy = .int n ∧ a ≠ [] ∧ -(2 ^ 63) ≤ n ∧ n ≤ 0
    · obtain ⟨a, n, rfl, rfl, c1, c2, c3⟩ := c
      have e0 : oMulZ (.tuple a) (.int n) = some (.tuple []) := if_pos ⟨c1, c2, c3⟩
      rw [e0] at e
      cases e
      obtain ⟨p, xs, rfl, h1, h2, h3⟩ := rx.tup w
      refine .inl ⟨p, xs, n, rfl, ry.int, fun z => c1 ?_, c2, c3, h2, fun r hr => ?_⟩
      · subst z
        cases h3
        rfl
      · obtain ⟨s, rv⟩ := new_tup w hr .nil
        exact k _ _ _ s rv
    · refine .inr ⟨dk, HS, dx, dy, dz, w, rx, ry, ?_, k⟩
      rw [← e]
      unfold oMulZ
      split
      · rename_i a n
        rw [if_neg fun z => c ⟨a, n, rfl, rfl, z⟩]
      · rfl
end
end DL

/-! growth rows and their lots -/
namespace GW
open PySem PySem.Spec PyProof.Rows L2 DL
def mx (l : List Nat) : Nat := l.foldl max 0
theorem fold_max : ∀ (l : List Nat) (a : Nat), a ≤ l.foldl max a ∧ (∀ x ∈ l, x ≤ l.foldl max a) ∧ (l.foldl max a = a ∨ l.foldl max a ∈ l)
  | [], a => ⟨Nat.le_refl _, (fun x h => by cases h), .inl rfl⟩
  | y :: l, a => by
    obtain ⟨h1, h2, h3⟩ := fold_max l (max a y)
    rw [List.foldl_cons]
    refine ⟨Nat.le_trans (Nat.le_max_left ..) h1, fun x hx => ?_, ?_⟩
    · rcases List.mem_cons.mp hx with rfl | hx
      · exact Nat.le_trans (Nat.le_max_right ..) h1
      · exact h2 x hx
    · rcases h3 with h3 | h3
      · rw [h3]
        rcases Nat.le_total a y with c | c
        · rw [Nat.max_eq_right c]; exact .inr (List.mem_cons_self ..)
        · rw [Nat.max_eq_left c]; exact .inl rfl
      · exact .inr (List.mem_cons_of_mem _ h3)
theorem mx_ge {l : List Nat} {x : Nat} (h : x ∈ l) : x ≤ mx l := (fold_max l 0).2.1 x h
theorem mx_mem {l : List Nat} (h : l ≠ []) : mx l ∈ l := by
  rcases (fold_max l 0).2.2 with e | e
  · cases l with
    | nil => exact absurd rfl h
    | cons a r =>
      have h1 := mx_ge (List.mem_cons_self .. : a ∈ a :: r)
      have e' : mx (a :: r) = 0 := e
      have : a = 0 := by omega
      rw [e', this]
      exact List.mem_cons_self ..
  · exact e
theorem max_nD {l : List Nat} (h : l ≠ []) : fMax' [nD l] = some (.int (mx l : Nat)) := by
  cases l with
  | nil => exact absurd rfl h
  | cons a r =>
    show (intsOf ((a :: r).map fun (k : Nat) => PyData.int (k : Int))).bind (fun ns => (maxI ns).map PyData.int) = _
    rw [intsOf_mapf (fun (k : Nat) => (k : Int))]
    show some (PyData.int _) = _
    have f := foldMax (r.map fun (k : Nat) => (k : Int)) (a : Int)
    generalize (r.map fun (k : Nat) => (k : Int)).foldl (fun a b => if b > a then b else a) (a : Int) = m at f ⊢
    obtain ⟨f1, f2, f3⟩ := f
    have hm := mx_mem (l := a :: r) (by simp)
    have hle : ((mx (a :: r) : Nat) : Int) ≤ m := by
      rcases List.mem_cons.mp hm with e | e
      · rw [e]; exact f2
      · exact f3 _ (List.mem_map.mpr ⟨_, e, rfl⟩)
    have hge : m ≤ (mx (a :: r) : Nat) := by
      rcases f1 with e | e
      · rw [e]
        have := mx_ge (List.mem_cons_self .. : a ∈ a :: r)
        omega
      · obtain ⟨k, hk, rfl⟩ := List.mem_map.mp e
        have := mx_ge (List.mem_cons_of_mem a hk)
        omega
    rw [show m = ((mx (a :: r) : Nat) : Int) by omega]
/-! ### lots -/
def lotP (l : List Nat) (t j : Nat) : List Nat := (List.range t).filter fun k => decide (l.getD k 0 = j)
def lotsP (l : List Nat) (t : Nat) : List (List Nat) := (List.range (mx l + 1)).map (lotP l t)
def lots (l : List Nat) : List (List Nat) := lotsP l l.length
theorem lotsP_get {l : List Nat} {t j : Nat} (h : j ≤ mx l) : (lotsP l t)[j]? = some (lotP l t j) := by
  unfold lotsP
  rw [List.getElem?_map, List.getElem?_range (by omega)]
  rfl
theorem lotsP_len (l : List Nat) (t : Nat) : (lotsP l t).length = mx l + 1 := by unfold lotsP; simp
theorem lotP_succ (l : List Nat) (t j : Nat) : lotP l (t + 1) j = lotP l t j ++ if l.getD t 0 = j then [t] else [] := by
  unfold lotP
  rw [List.range_succ, List.filter_append]
  congr 1
  by_cases c : l.getD t 0 = j
  · rw [if_pos c, List.filter_cons, if_pos (decide_eq_true c), List.filter_nil]
  · rw [if_neg c, List.filter_cons, if_neg (by rw [decide_eq_true_iff]; exact c), List.filter_nil]
theorem lotP_len (l : List Nat) (t j : Nat) : (lotP l t j).length ≤ t := by
  unfold lotP
  exact Nat.le_trans (List.length_filter_le _ _) (by rw [List.length_range]; exact Nat.le_refl _)
theorem lotsP_step {l : List Nat} {t : Nat} (h : l.getD t 0 ≤ mx l) : (lotsP l t).set (l.getD t 0) (lotP l t (l.getD t 0) ++ [t]) = lotsP l (t + 1) := by
  apply List.ext_getElem?
  intro j
  by_cases hj : j ≤ mx l
  · rw [lotsP_get hj, lotP_succ]
    by_cases c : l.getD t 0 = j
    · rw [if_pos c, c, List.getElem?_set_self (by rw [lotsP_len]; omega)]
    · rw [if_neg c, List.getElem?_set_ne c, lotsP_get hj, List.append_nil]
  · rw [List.getElem?_eq_none (by rw [List.length_set, lotsP_len]; omega), List.getElem?_eq_none (by rw [lotsP_len]; omega)]
theorem lotsP_zero (l : List Nat) : lotsP l 0 = List.replicate (mx l + 1) [] := by
  unfold lotsP
  apply List.ext_getElem?
  intro j
  by_cases hj : j < mx l + 1
  · rw [List.getElem?_map, List.getElem?_range hj, List.getElem?_replicate, if_pos hj]; rfl
  · rw [List.getElem?_eq_none (by simp; omega), List.getElem?_eq_none (by simp; omega)]
/-! ### the dict of things and lots -/
def kv (z : Nat × Nat) : D × D := (kN z.1, kN z.2)
theorem getD_kv_none : ∀ {L : List (Nat × Nat)} {k : Nat}, k ∉ L.map (·.1) → getD (L.map kv) (kN k) = none
  | [], _, _ => rfl
  | z :: L, k, h => by
    rw [List.map_cons, getD_neg (fun e => h (by rw [List.map_cons, ← kN_inj _ _ e]; exact List.mem_cons_self ..))]
    exact getD_kv_none fun h' => h (by rw [List.map_cons]; exact List.mem_cons_of_mem _ h')
theorem getD_kv_some : ∀ {L : List (Nat × Nat)} {k v : Nat}, (L.map (·.1)).Nodup → (k, v) ∈ L → getD (L.map kv) (kN k) = some (kN v)
  | z :: L, k, v, hn, h => by
    rw [List.map_cons, List.nodup_cons] at hn
    rcases List.mem_cons.mp h with rfl | h
    · exact getD_pos rfl
    · rw [List.map_cons, getD_neg (fun e => hn.1 (by rw [kN_inj _ _ e]; exact List.mem_map.mpr ⟨_, h, rfl⟩))]
      exact getD_kv_some hn.2 h
theorem merge_kv : ∀ (M L : List (Nat × Nat)), ((L ++ M).map (·.1)).Nodup → mergeD (L.map kv) (M.map kv) = (L ++ M).map kv
  | [], L, _ => by rw [List.append_nil]; rfl
  | z :: M, L, h => by
    have e : mergeD (L.map kv) ((z :: M).map kv) = mergeD (putD (L.map kv) (kN z.1) (kN z.2)) (M.map kv) := rfl
    have h' := h
    rw [List.map_append, List.map_cons, List.nodup_append] at h'
    rw [e, putD_new _ (getD_kv_none fun hm => h'.2.2 _ hm _ (List.mem_cons_self ..) rfl), show L.map kv ++ [(kN z.1, kN z.2)] = (L ++ [z]).map kv by rw [List.map_append]; rfl, merge_kv M (L ++ [z]) (by rw [List.append_assoc]; exact h), List.append_assoc]
    rfl
def prs (l : List Nat) : Nat → List (Nat × Nat)
  | 0 => []
  | j + 1 => prs l j ++ (lotP l l.length j).map fun k => (k, j)
theorem prs_mem {l : List Nat} : ∀ {j : Nat} {z : Nat × Nat}, z ∈ prs l j ↔ z.2 < j ∧ z.1 < l.length ∧ l.getD z.1 0 = z.2
  | 0, z => ⟨fun h => (by cases h), fun h => absurd h.1 (Nat.not_lt_zero _)⟩
  | j + 1, z => by
    unfold prs lotP
    rw [List.mem_append, prs_mem, List.mem_map]
    constructor
    · rintro (h | ⟨k, hk, rfl⟩)
      · exact ⟨by omega, h.2⟩
      · rw [List.mem_filter, List.mem_range, decide_eq_true_iff] at hk
        exact ⟨Nat.lt_succ_self _, hk.1, hk.2⟩
    · rintro ⟨h1, h2, h3⟩
      by_cases c : z.2 = j
      · refine .inr ⟨z.1, ?_, by rw [← c]⟩
        rw [List.mem_filter, List.mem_range, decide_eq_true_iff]
        exact ⟨h2, by rw [h3, c]⟩
      · exact .inl ⟨by omega, h2, h3⟩
theorem prs_key {l : List Nat} {j k : Nat} : k ∈ (prs l j).map (·.1) ↔ k < l.length ∧ l.getD k 0 < j := by
  rw [List.mem_map]
  constructor
  · rintro ⟨z, hz, rfl⟩
    obtain ⟨h1, h2, h3⟩ := prs_mem.mp hz
    exact ⟨h2, by omega⟩
  · rintro ⟨h1, h2⟩
    exact ⟨(k, l.getD k 0), prs_mem.mpr ⟨h2, h1, rfl⟩, rfl⟩
theorem prs_nd (l : List Nat) : ∀ j, ((prs l j).map (·.1)).Nodup
  | 0 => List.nodup_nil
  | j + 1 => by
    have e : (prs l (j + 1)).map (·.1) = (prs l j).map (·.1) ++ lotP l l.length j := by
      show (prs l j ++ _).map _ = _
      rw [List.map_append, List.map_map]
      congr 1
      exact List.map_id _
    rw [e, List.nodup_append]
    refine ⟨prs_nd l j, List.nodup_range.filter _, fun a ha b hb e => ?_⟩
    have h1 := (prs_key.mp ha).2
    unfold lotP at hb
    rw [List.mem_filter, decide_eq_true_iff] at hb
    rw [e] at h1
    omega
theorem prs_len {l : List Nat} : (prs l (mx l + 1)).length = l.length := by
  have p : ((prs l (mx l + 1)).map (·.1)).Perm (List.range l.length) := (List.perm_ext_iff_of_nodup (prs_nd l _) List.nodup_range).mpr fun k => by
    rw [prs_key, List.mem_range]
    refine ⟨fun h => h.1, fun h => ⟨h, ?_⟩⟩
    have : l.getD k 0 ∈ l := by
      simp [List.getD, List.getElem?_eq_getElem h]
    have := mx_ge this
    omega
  have := p.length_eq
  rwa [List.length_map, List.length_range] at this
/-! ### how many ways -/
def W : Nat → Nat → Nat
  | 0, _ => 1
  | s + 1, m => (m + 1) * W s m + W s (m + 1)
theorem W_bd : ∀ s m, s + m ≤ 98 → W s m ≤ 100 ^ s
  | 0, m, _ => Nat.le_refl _
  | s + 1, m, h => by
    have h1 := W_bd s m (by omega)
    have h2 := W_bd s (m + 1) (by omega)
    show (m + 1) * W s m + W s (m + 1) ≤ _
    rw [Nat.pow_succ]
    have := Nat.mul_le_mul_left (m + 1) h1
    have h3 : (m + 2) * 100 ^ s ≤ 100 * 100 ^ s := Nat.mul_le_mul_right _ (by omega)
    have h4 : (m + 2) * 100 ^ s = (m + 1) * 100 ^ s + 100 ^ s := by rw [Nat.add_mul, Nat.add_mul, Nat.two_mul, Nat.one_mul]; omega
    rw [Nat.mul_comm (100 ^ s)]
    omega
theorem W_small {s m : Nat} (h : s + m ≤ 98) (hs : s ≤ 41) : W s m < 2 ^ 280 := by
  have h1 := W_bd s m h
  have h2 : 100 ^ s ≤ 100 ^ 41 := Nat.pow_le_pow_right (by decide) hs
  have h3 : (100 : Nat) ^ 41 < 2 ^ 280 := by decide
  omega
end GW

namespace K36
open PySem PySem.Spec PyProof.Rows L2 DL
abbrev srcT := bagT
open GW
def isI (d : D) : Bool := match d with
  | .int _ => true
  | _ => false
def toI (d : D) : Int := match d with
  | .int z => z
  | _ => 0
def scanG : Nat → Int → List Int → D
  | _, _, [] => .none
  | i, m, z :: r => if 0 ≤ z ∧ z ≤ m + 1 then scanG (i + 1) (max m z) r else .tuple [.str "item", .int (i : Int)]
def fltG (n : Nat) (v : D) : D := match v with
  | .tuple ds => if ds.length = n then (if ds.all isI = true then scanG 0 (-1) (ds.map toI) else .str "form") else .str "form"
  | _ => .str "form"
def OkG (l : List Nat) : Prop := 1 ≤ l.length ∧ l.length ≤ 40 ∧ ∀ x ∈ l, x < l.length
def lotsD (l : List Nat) : D := .tuple ((lots l).map nD)
def wRow (s k : Nat) : D := .list ((List.range k).map fun (m : Nat) => .int (W s m : Nat))
def sp_is_integer : SpD := fun as P => ∃ d : D, as = [.d d] ∧ P (.bool (isI d))
def sp_item_fault : SpD := fun as P => ∃ ns : List Int, as = [.d (.tuple (ns.map .int))] ∧ P (scanG 0 (-1) ns)
def sp_growth_error : SpD := fun as P => ∃ (n : Nat) (v : D), as = [.d (.int (n : Int)), .d v] ∧ n ≤ 40 ∧ P (fltG n v)
def sp_lots_of_growth : SpD := fun as P => ∃ l : List Nat, as = [.d (nD l)] ∧ OkG l ∧ P (lotsD l)
def sp_growth_of_lots : SpD := fun as P => ∃ l : List Nat, as = [.d (lotsD l)] ∧ OkG l ∧ P (nD l)
def sp_endings_table : SpD := fun as P => ∃ r : Nat, as = [.d (.int (r : Int))] ∧ r ≤ 40 ∧ P (.list ((List.range (r + 1)).map fun (s : Nat) => wRow s (r + 41 - s)))
def sp_endings_number : SpD := fun as P => ∃ m r : Nat, as = [.d (.int (m : Int)), .d (.int (r : Int))] ∧ m ≤ 40 ∧ r ≤ 40 ∧ P (.int (W r m : Nat))
def sp_partings_number : SpD := fun as P => ∃ n : Nat, as = [.d (.int (n : Int))] ∧ 1 ≤ n ∧ n ≤ 41 ∧ P (.int (W (n - 1) 0 : Nat))
def sp__law_draw : SpD := spDraw
def sp__law_pick : SpD := spPick
def sp__law_is_whole : SpD := fun as P => ∃ d : D, as = [.d d] ∧ P (.bool (isI d))
def sp__law_odd : SpD := fun as P => as = [.dk] ∧ ∀ v : D, It v → P v
def sp__law_mixed : SpD := fun as P => ∃ l : List Nat, as = [.dk, .d (nD l)] ∧ l.length ≤ 101 ∧ ∀ m : List Nat, m.Perm l → P (.list (m.map fun (k : Nat) => .int (k : Int)))
def sp__law_with : SpD := fun as P => ∃ (ds : List D) (i : Nat) (v : D), as = [.d (.tuple ds), .d (.int (i : Int)), .d v] ∧ i < ds.length ∧ ds.length ≤ 101 ∧ P (.tuple (ds.set i v))
def sp__law_growth : SpD := fun as P => ∃ n : Nat, as = [.dk, .d (.int (n : Int))] ∧ 1 ≤ n ∧ n ≤ 40 ∧ ∀ l : List Nat, l.length = n → (∀ x ∈ l, x < n) → P (nD l)
def sp__law_lots : SpD := fun as P => ∃ l : List Nat, as = [.d (nD l)] ∧ OkG l ∧ P (lotsD l)
def sp__law_due : SpD := fun as P => ∃ (n : Nat) (v : D), as = [.d (.int (n : Int)), .d v] ∧ n ≤ 40 ∧ P (fltG n v)

/-- is_integer(value): names 0:value -/
def t_is_integer : DTS :=
  yRet (xAndV (xIsI .int (xRd 0)) (xNotV (xIsI .bool (xRd 0))))

/-- item_fault(value): names 0:value 1:most 2:i 3:item -/
def t_item_fault : DTS :=
  ySeq (ySet 1 (x1 oNeg (xC (.int 1))))
  (ySeq (yFor (xEnumA (xV 0)) (gT (gCons' (gV 2) (gCons' (gV 3) (gNil'))))
    (ySeq (yIf (xNot (xcc cLe cLe (xC (.int 0)) (xRd 3) (x2 oAdd (xRd 1) (xC (.int 1)))))
    (yRet (xTup (xCons (xC (.str "item")) (xCons (xV 2) (xNil)))))
    (yNext))
  (ySet 1 (xF fMax' (xCons (xRd 1) (xCons (xRd 3) (xNil)))))))
  (yRet (xC .none)))

/-- growth_error(n, value): names 0:n 1:value 2:item -/
def t_growth_error : DTS :=
  ySeq (yIf (xOr (xNot (xT (xIsI .tuple (xRd 1)))) (xOr (xc cNe (xF fLen (xCons (xRd 1) (xNil))) (xRd 0)) (xNot (xT (xF fAll (xCons (xShare (xLc (xItems (xV 1)) (gV 2) (xYes) (xCall sp_is_integer (xCons (xArD (xV 2)) (xNil))) [2])) (xNil)))))))
    (yRet (xC (.str "form")))
    (yNext))
  (yRet (xCall sp_item_fault (xCons (xArD (xV 1)) (xNil))))

/-- lots_of_growth(row): names 0:row 1:found 2:thing 3:lot -/
def t_lots_of_growth : DTS :=
  yNest 1 (xRg1 (x2 oAdd (xF fMax' (xCons (xRd 0) (xNil))) (xC (.int 1)))) (xEnumA (xV 0)) (gT (gCons' (gV 2) (gCons' (gV 3) (gNil')))) (xV 3) (xV 2)
  (yRet (xF fTuple (xCons (xShare (xLc (xItems (xV 1)) (gV 3) (xYes) (xF fTuple (xCons (xRd 3) (xNil))) [3])) (xNil))))

/-- growth_of_lots(lots): names 0:lots 1:numbers 2:number 3:lot 4:thing -/
def t_growth_of_lots : DTS :=
  ySeq (yNewS 1 (xDctN false))
  (ySeq (yFor (xEnumA (xV 0)) (gT (gCons' (gV 2) (gCons' (gV 3) (gNil'))))
    (yDUpd 1 (xDc (xItems (xV 3)) (gV 4) (xV 4) (xV 2) [4])))
  (yRet (xF fTuple (xCons (xShare (xLc (xRg1 (xDLen 1)) (gV 4) (xYes) (xDGet 1 (xV 4)) [4])) (xNil)))))

/-- endings_table(r): names 0:r 1:found 2:step 3:last 4:m -/
def t_endings_table : DTS :=
  ySeq (yOwn 1 (xLstF (xCons (x2 oMul (xLst (xCons (xC (.int 1)) (xNil))) (x2 oAdd (xRd 0) (xC (.int 41)))) (xNil))))
  (ySeq (yFor (xRg1 (xV 0)) (gV 2)
    (ySeq (ySet 3 (x2 oIx (xRd 1) (x1 oNeg (xC (.int 1)))))
  (yApp 1 (xShare (xLc (xRg1 (x2 oSub (xF fLen (xCons (xRd 3) (xNil))) (xC (.int 1)))) (gV 4) (xYes) (x2 oAdd (x2 oMul (x2 oAdd (xRd 4) (xC (.int 1))) (x2 oIx (xRd 3) (xRd 4))) (x2 oIx (xRd 3) (x2 oAdd (xRd 4) (xC (.int 1))))) [4])))))
  (yFrz 1 (yRet (xV 1))))

/-- endings_number(m, r): names 0:m 1:r -/
def t_endings_number : DTS :=
  yRet (x2 oIx (x2 oIx (xCall sp_endings_table (xCons (xArD (xV 1)) (xNil))) (xRd 1)) (xRd 0))

/-- partings_number(n): names 0:n -/
def t_partings_number : DTS :=
  yRet (xCall sp_endings_number (xCons (xArD (xC (.int 0))) (xCons (xArD (x2 oSub (xRd 0) (xC (.int 1)))) (xNil))))

/-- _law_pick(bag, some): names 0:bag 1:some -/
def t__law_pick : DTS :=
  yRet (x2 oIx (xRd 1) (xCall sp__law_draw (xCons (xDeck 0) (xCons (xArD (xF fLen (xCons (xRd 1) (xNil)))) (xNil)))))

/-- _law_is_whole(value): names 0:value -/
def t__law_is_whole : DTS :=
  yRet (xAndV (xIsI .int (xRd 0)) (xNotV (xIsI .bool (xRd 0))))

/-- _law_odd(bag): names 0:bag 1:some -/
def t__law_odd : DTS :=
  ySeq (ySet 1 (xLst (xCons (xC .none) (xCons (xC (.bool true)) (xCons (xC (.bool false)) (xCons (xC (.str "")) (xCons (xC (.str "0")) (xCons (xC (.str "way")) (xCons (xTup (xNil)) (xCons (xLst (xNil)) (xCons (xDic0) (xCons (xTup (xCons (xC (.int 0)) (xNil))) (xCons (xLst (xCons (xC (.int 0)) (xCons (xC (.int 0)) (xNil)))) (xCons (xC (.int 41)) (xCons (x1 oNeg (xC (.int 1))) (xCons (x2 oPow (xC (.int 10)) (xC (.int 59))) (xCons (xTup (xCons (xC .none) (xCons (xC (.int 0)) (xNil)))) (xCons (xTup (xCons (xTup (xCons (xC (.int 0)) (xNil))) (xCons (xC (.int 1)) (xNil)))) (xNil)))))))))))))))))))
  (yRet (xCall sp__law_pick (xCons (xDeck 0) (xCons (xArD (xV 1)) (xNil)))))

/-- _law_mixed(bag, row): names 0:bag 1:row 2:left 3:found -/
def t__law_mixed : DTS :=
  ySeq (yPar [2, 3] (xCons (xOwn (xListF (xRd 1))) (xCons (xOwn (xLstF (xNil))) (xNil))))
  (ySeq (yWhile (xc cNe (xRd 2) (xLst (xNil)))
    (yAppPopAt 3 2 (xCall sp__law_draw (xCons (xDeck 0) (xCons (xArD (xF fLen (xCons (xRd 2) (xNil)))) (xNil))))))
  (yFrz 3 (yRet (xV 3))))

/-- _law_with(row, place, item): names 0:row 1:place 2:item -/
def t__law_with : DTS :=
  yRet (x2 oAdd (x2 oAdd (xCut (xRd 0) (xNo) (xPart (xV 1))) (xTup (xCons (xV 2) (xNil)))) (xCut (xRd 0) (xPart (x2 oAdd (xRd 1) (xC (.int 1)))) (xNo)))

/-- _law_growth(bag, n): names 0:bag 1:n 2:row 3:few 4:turn 5:m -/
def t__law_growth : DTS :=
  ySeq (ySet 2 (xTup (xCons (xC (.int 0)) (xNil))))
  (ySeq (ySet 3 (xCall sp__law_pick (xCons (xDeck 0) (xCons (xArD (xLst (xCons (xC (.int 1)) (xCons (xC (.int 2)) (xCons (xC (.int 5)) (xNil)))))) (xNil)))))
  (ySeq (yFor (xRg1 (x2 oSub (xRd 1) (xC (.int 1)))) (gV 4)
    (ySeq (ySet 5 (xF fMax' (xCons (xRd 2) (xNil))))
  (ySet 2 (x2 oAdd (xRd 2) (xTup (xCons (xQ (xIf (xc cEq (xCall sp__law_draw (xCons (xDeck 0) (xCons (xArD (x2 oAdd (xRd 3) (xC (.int 1)))) (xNil)))) (xC (.int 0))) (x2 oAdd (xRd 5) (xC (.int 1))) (xCall sp__law_draw (xCons (xDeck 0) (xCons (xArD (x2 oAdd (xRd 5) (xC (.int 2)))) (xNil)))))) (xNil)))))))
  (yRet (xV 2))))

/-- _law_lots(row): names 0:row 1:found 2:thing 3:lot -/
def t__law_lots : DTS :=
  ySeq (yOwn 1 (xRepF (xLst (xCons (xTup (xNil)) (xNil))) (x2 oAdd (xF fMax' (xCons (xRd 0) (xNil))) (xC (.int 1)))))
  (ySeq (yFor (xEnumA (xV 0)) (gT (gCons' (gV 2) (gCons' (gV 3) (gNil'))))
    (yPut 1 (x2 oAdd (x2 oIx (xRd 1) (xRd 3)) (xTup (xCons (xV 2) (xNil)))) (xV 3)))
  (yRet (xF fTuple (xCons (xRd 1) (xNil)))))

/-- _law_due(n, value): names 0:n 1:value 2:high 3:i 4:item -/
def t__law_due : DTS :=
  ySeq (yIf (xOr (xNot (xT (xIsI .tuple (xRd 1)))) (xOr (xc cNe (xF fLen (xCons (xRd 1) (xNil))) (xRd 0)) (xNot (xT (xF fAll (xCons (xShare (xLc (xItems (xV 1)) (gV 4) (xYes) (xCall sp__law_is_whole (xCons (xArD (xV 4)) (xNil))) [4])) (xNil)))))))
    (yRet (xC (.str "form")))
    (yNext))
  (ySeq (ySet 2 (x1 oNeg (xC (.int 1))))
  (ySeq (yFor (xEnumA (xV 1)) (gT (gCons' (gV 3) (gCons' (gV 4) (gNil'))))
    (ySeq (yIf (xNot (xcc cLe cLe (xC (.int 0)) (xRd 4) (x2 oAdd (xRd 2) (xC (.int 1)))))
    (yRet (xTup (xCons (xC (.str "item")) (xCons (xV 3) (xNil)))))
    (yNext))
  (ySet 2 (xF fMax' (xCons (xRd 2) (xCons (xRd 4) (xNil)))))))
  (yRet (xC .none))))

/-- law(script): names 0:script 1:bag 2:turn 3:n 4:row 5:lots 6:kept 7:told 8:i 9:j 10:values 11:item 12:bent 13:value 14:due 15:stays 16:high 17:m 18:r 19:ways 20:own -/
def t_law : DTS :=
  ySeq (yFor (xRg1 (xC (.int 3))) (gV 2)
    (ySeq (ySet 3 (x2 oAdd (xC (.int 1)) (xCall sp__law_draw (xCons (xDeck 1) (xCons (xArD (xCall sp__law_pick (xCons (xDeck 1) (xCons (xArD (xLst (xCons (xC (.int 3)) (xCons (xC (.int 8)) (xCons (xC (.int 40)) (xNil)))))) (xNil))))) (xNil))))))
  (ySeq (ySet 4 (xCall sp__law_growth (xCons (xDeck 1) (xCons (xArD (xV 3)) (xNil)))))
  (ySeq (yPar [5, 6] (xCons (xVal (xCall sp__law_lots (xCons (xArD (xV 4)) (xNil)))) (xCons (xVal (xF fRepr (xCons (xRd 4) (xNil)))) (xNil))))
  (ySeq (ySet 7 (xLst (xCons (xCall sp_lots_of_growth (xCons (xArD (xV 4)) (xNil))) (xCons (xCall sp_growth_of_lots (xCons (xArD (xV 5)) (xNil))) (xCons (xCallK sp_lots_of_growth [0] xNil (xCons (xArD (xV 4)) (xNil))) (xCons (xCallK sp_growth_of_lots [0] xNil (xCons (xArD (xV 5)) (xNil))) (xNil)))))))
  (ySeq (yIf (xOr (xc cNe (xF fRepr (xCons (xRd 7) (xNil))) (xF fRepr (xCons (x2 oMul (xLst (xCons (xV 5) (xCons (xV 4) (xNil)))) (xC (.int 2))) (xNil)))) (xc cNe (xF fRepr (xCons (xRd 4) (xNil))) (xRd 6)))
    (yRet (xC (.bool false)))
    (yNext))
  (ySeq (yPar [8, 9] (xCons (xVal (xCall sp__law_draw (xCons (xDeck 1) (xCons (xArD (xV 3)) (xNil))))) (xCons (xVal (xCall sp__law_draw (xCons (xDeck 1) (xCons (xArD (xV 3)) (xNil))))) (xNil))))
  (ySeq (yOwn 10 (xLstF (xCons (xV 4) (xCons (xF fList (xCons (xRd 4) (xNil))) (xCons (x1 oRevA (xRd 4)) (xCons (xCut (xRd 4) (xPart (xC (.int 1))) (xNo)) (xCons (x2 oAdd (xRd 4) (xTup (xCons (xC (.int 0)) (xNil)))) (xCons (xTup (xNil)) (xCons (xC .none) (xCons (xCall sp__law_odd (xCons (xDeck 1) (xNil))) (xCons (xTup (xCons (xV 4) (xNil))) (xCons (xRgT (xBd1 (xV 3))) (xCons (x2 oMul (xTup (xCons (xC (.int 0)) (xNil))) (xRd 3)) (xNil))))))))))))))
  (ySeq (yFor (xItems (xLst (xCons (xC (.int 0)) (xCons (xC (.int 1)) (xCons (x1 oNeg (xC (.int 1))) (xCons (x2 oAdd (xF fMax' (xCons (xRd 4) (xNil))) (xC (.int 1))) (xCons (x2 oAdd (xF fMax' (xCons (xRd 4) (xNil))) (xC (.int 2))) (xCons (xC (.bool true)) (xCons (xC (.bool false)) (xCons (xC .none) (xCons (xC (.str "0")) (xCons (x2 oPow (xC (.int 10)) (xC (.int 30))) (xCons (x2 oIx (xRd 4) (xRd 9)) (xNil)))))))))))))) (gV 11)
    (ySeq (ySet 12 (xCall sp__law_with (xCons (xArD (xV 4)) (xCons (xArD (xV 8)) (xCons (xArD (xV 11)) (xNil))))))
  (yExt 10 (xLst (xCons (xV 12) (xCons (xCall sp__law_with (xCons (xArD (xV 12)) (xCons (xArD (xV 9)) (xCons (xArD (xCall sp__law_pick (xCons (xDeck 1) (xCons (xArD (xLst (xCons (x1 oNeg (xC (.int 1))) (xCons (x2 oAdd (xRd 3) (xC (.int 1))) (xCons (xC .none) (xCons (xC (.int 0)) (xNil))))))) (xNil))))) (xNil))))) (xNil)))))))
  (ySeq (yExt 10 (xLst (xCons (xF fTuple (xCons (xCall sp__law_mixed (xCons (xDeck 1) (xCons (xArD (xV 4)) (xNil)))) (xNil))) (xCons (xRgT (xBd2 (xC (.int 1)) (x2 oAdd (xRd 3) (xC (.int 1))))) (xCons (x2 oAdd (x2 oMulZ (xTup (xCons (xC (.int 0)) (xNil))) (x2 oSub (xRd 3) (xC (.int 1)))) (xTup (xCons (xC (.int 2)) (xNil)))) (xNil))))))
  (yFrz 10 (yFor (xItems (xV 10)) (gV 13)
    (ySeq (yPar [14, 15] (xCons (xVal (xCall sp__law_due (xCons (xArD (xV 3)) (xCons (xArD (xV 13)) (xNil))))) (xCons (xVal (xF fRepr (xCons (xRd 13) (xNil)))) (xNil))))
  (yIf (xOr (xc cNe (xF fRepr (xCons (xLst (xCons (xCall sp_growth_error (xCons (xArD (xV 3)) (xCons (xArD (xV 13)) (xNil)))) (xCons (xCallK sp_growth_error [1, 0] xNil (xCons (xArD (xV 13)) (xCons (xArD (xV 3)) (xNil)))) (xNil)))) (xNil))) (xF fRepr (xCons (xLst (xCons (xV 14) (xCons (xV 14) (xNil)))) (xNil)))) (xc cNe (xF fRepr (xCons (xRd 13) (xNil))) (xRd 15)))
    (yRet (xC (.bool false)))
    (yNext)))))))))))))))
  (ySeq (ySet 16 (xCall sp__law_pick (xCons (xDeck 1) (xCons (xArD (xLst (xCons (xC (.int 6)) (xCons (xC (.int 20)) (xCons (xQ (xIf (xc cEq (xCall sp__law_draw (xCons (xDeck 1) (xCons (xArD (xC (.int 3))) (xNil)))) (xC (.int 0))) (xC (.int 40)) (xC (.int 9)))) (xNil)))))) (xNil)))))
  (ySeq (yPar [17, 18] (xCons (xVal (xCall sp__law_draw (xCons (xDeck 1) (xCons (xArD (x2 oAdd (xRd 16) (xC (.int 1)))) (xNil))))) (xCons (xVal (xCall sp__law_draw (xCons (xDeck 1) (xCons (xArD (x2 oAdd (xRd 16) (xC (.int 1)))) (xNil))))) (xNil))))
  (ySeq (ySet 19 (x2 oMul (xLst (xCons (xC (.int 1)) (xNil))) (x2 oAdd (x2 oAdd (xRd 17) (xRd 18)) (xC (.int 1)))))
  (ySeq (yFor (xRg1 (xV 18)) (gV 2)
    (ySet 19 (xShare (xLc (xRg1 (x2 oSub (xF fLen (xCons (xRd 19) (xNil))) (xC (.int 1)))) (gV 20) (xYes) (x2 oAdd (x2 oMul (x2 oAdd (xRd 20) (xC (.int 1))) (x2 oIx (xRd 19) (xRd 20))) (x2 oIx (xRd 19) (x2 oAdd (xRd 20) (xC (.int 1))))) [20]))))
  (ySeq (ySet 14 (x2 oIx (xRd 19) (xRd 17)))
  (ySeq (yIf (xc cNe (xF fRepr (xCons (xLst (xCons (xCall sp_endings_number (xCons (xArD (xV 17)) (xCons (xArD (xV 18)) (xNil)))) (xCons (xCallK sp_endings_number [1, 0] xNil (xCons (xArD (xV 18)) (xCons (xArD (xV 17)) (xNil)))) (xNil)))) (xNil))) (xF fRepr (xCons (xLst (xCons (xV 14) (xCons (xV 14) (xNil)))) (xNil))))
    (yRet (xC (.bool false)))
    (yNext))
  (ySeq (ySet 3 (x2 oAdd (xC (.int 1)) (xCall sp__law_draw (xCons (xDeck 1) (xCons (xArD (xV 16)) (xNil))))))
  (ySeq (ySet 19 (x2 oMul (xLst (xCons (xC (.int 1)) (xNil))) (x2 oAdd (xRd 3) (xC (.int 1)))))
  (ySeq (yFor (xRg1 (x2 oSub (xRd 3) (xC (.int 1)))) (gV 2)
    (ySet 19 (xShare (xLc (xRg1 (x2 oSub (xF fLen (xCons (xRd 19) (xNil))) (xC (.int 1)))) (gV 20) (xYes) (x2 oAdd (x2 oMul (x2 oAdd (xRd 20) (xC (.int 1))) (x2 oIx (xRd 19) (xRd 20))) (x2 oIx (xRd 19) (x2 oAdd (xRd 20) (xC (.int 1))))) [20]))))
  (yRet (xB (xc cEq (xF fRepr (xCons (xLst (xCons (xCall sp_partings_number (xCons (xArD (xV 3)) (xNil))) (xCons (xCallK sp_partings_number [0] xNil (xCons (xArD (xV 3)) (xNil))) (xCons (xCall sp_endings_number (xCons (xArD (xC (.int 0))) (xCons (xArD (x2 oSub (xRd 3) (xC (.int 1)))) (xNil)))) (xNil))))) (xNil))) (xF fRepr (xCons (x2 oMul (xLst (xCons (x2 oIx (xRd 19) (xC (.int 0))) (xNil))) (xC (.int 3))) (xNil)))))))))))))))

local macro_rules | `(tactic| walk_at "mul") => `(tactic| first | exact mulOk_l (by omega) (by omega) | exact mulOk_r (by omega) (by omega) | exact mulOk_w 300 300 (by omega) (by omega) (by decide))
local macro_rules | `(tactic| walk_at "len") => `(tactic| first | omega | (simp only [List.length_cons, List.length_nil, List.length_append, List.length_map, List.length_range]; omega))
local macro_rules | `(tactic| walk_at "side") => `(tactic| first | with_reducible assumption | with_reducible exact le_line (by walk_at "len") | with_reducible exact lt_line (by walk_at "len") | omega | exact log_sm 200 (by omega) | assumption)
local macro_rules | `(tactic| walk_at "norm") => `(tactic| ((with_reducible show At _ _); (try conv => arg 2; simp only [List.set, List.map, List.length, List.replicate, List.append_eq, List.cons_append, List.nil_append, startD, arSlot, setS, Nat.reduceAdd, Nat.reduceSub, List.length_cons, List.length_nil, Nat.zero_add, frz, sl, List.getElem?_cons_zero, List.getElem?_cons_succ, Option.getD]); refine At.mk ?_))
local macro_rules | `(tactic| walk_at "ev") => `(tactic| (repeat ((try conv => whnf); first
  | walk_at "norm"
  | refine Exists.intro _ (And.intro (fMax_int _ _) ?_)
  | refine Exists.intro _ (And.intro (fMin_int _ _) ?_)
  | refine Exists.intro _ (And.intro (cNe_eq (by assumption)) ?_)
  | refine Exists.intro _ (And.intro (cNe_of (by assumption) rfl) ?_)
  | refine Exists.intro _ (And.intro (cEq_int _ _) ?_)
  | refine Exists.intro _ (And.intro (cNe_int _ _) ?_)
  | refine Exists.intro _ (And.intro (fSum_map _ _) ?_)
  | refine Exists.intro _ (And.intro rfl ?_)
  | refine Exists.intro _ (And.intro (oMul_int (by walk_at "mul")) ?_)
  | refine Exists.intro _ (And.intro (oDiv_int (divOk_w 110 (by omega) (by omega) (by decide))) ?_)
  | refine Exists.intro _ (And.intro (oMod_int (by omega)) ?_)
  | refine Exists.intro _ (And.intro (oShl_int (powOk_of (by omega) (by omega) (by omega))) ?_)
  | refine Exists.intro _ (And.intro (oShr_int (by omega)) ?_)
  | refine Exists.intro _ (And.intro (oAdd_list (le_line (by walk_at "len"))) ?_)
  | refine And.intro (by walk_at "side") ?_
  | refine And.intro rfl ?_
  | refine Exists.intro _ (Exists.intro _ (And.intro rfl ?_))
  | refine Exists.intro _ (Exists.intro _ (Exists.intro _ (And.intro rfl ?_))))))

theorem ar_is_integer : ∀ as P, sp_is_integer as P → as.length = 1 := by rintro _ P ⟨d, rfl, -⟩; rfl
theorem ar_item_fault : ∀ as P, sp_item_fault as P → as.length = 1 := by rintro _ P ⟨ns, rfl, -⟩; rfl
theorem ar_growth_error : ∀ as P, sp_growth_error as P → as.length = 2 := by rintro _ P ⟨n, v, rfl, -⟩; rfl
theorem ar_lots_of_growth : ∀ as P, sp_lots_of_growth as P → as.length = 1 := by rintro _ P ⟨l, rfl, -⟩; rfl
theorem ar_growth_of_lots : ∀ as P, sp_growth_of_lots as P → as.length = 1 := by rintro _ P ⟨l, rfl, -⟩; rfl
theorem ar_endings_table : ∀ as P, sp_endings_table as P → as.length = 1 := by rintro _ P ⟨r, rfl, -⟩; rfl
theorem ar_endings_number : ∀ as P, sp_endings_number as P → as.length = 2 := by rintro _ P ⟨m, r, rfl, -⟩; rfl
theorem ar_partings_number : ∀ as P, sp_partings_number as P → as.length = 1 := by rintro _ P ⟨n, rfl, -⟩; rfl
theorem ar__law_is_whole : ∀ as P, sp__law_is_whole as P → as.length = 1 := by rintro _ P ⟨d, rfl, -⟩; rfl
theorem ar__law_mixed : ∀ as P, sp__law_mixed as P → as.length = 2 := by rintro _ P ⟨l, rfl, -⟩; rfl
theorem ar__law_with : ∀ as P, sp__law_with as P → as.length = 3 := by rintro _ P ⟨ds, i, v, rfl, -⟩; rfl
theorem ar__law_growth : ∀ as P, sp__law_growth as P → as.length = 2 := by rintro _ P ⟨n, rfl, -⟩; rfl
theorem ar__law_lots : ∀ as P, sp__law_lots as P → as.length = 1 := by rintro _ P ⟨l, rfl, -⟩; rfl
theorem ar__law_due : ∀ as P, sp__law_due as P → as.length = 2 := by rintro _ P ⟨n, v, rfl, -⟩; rfl
theorem ar__law_odd : ∀ as P, sp__law_odd as P → as.length = 1 := by rintro _ P ⟨rfl, -⟩; rfl
theorem ar__law_pick : ∀ as P, sp__law_pick as P → as.length = 2 := by rintro _ P ⟨ds, rfl | rfl, -⟩ <;> rfl
theorem law__law_pick : ∀ as P, sp__law_pick as P → t__law_pick { nx := fun _ => P .none, rt := P } (startD 2 as) := by
  rintro _ P ⟨ds, rfl | rfl, h1, h2, hP⟩
  · refine ⟨_, rfl, rfl, _, rfl, _, rfl, _, rfl, by omega, len_log h2, fun r r0 r1 => ?_⟩
    obtain ⟨d, hd, e⟩ := pick_mem r0 r1
    exact ⟨_, e, hP d hd⟩
  · refine ⟨_, rfl, rfl, _, rfl, _, rfl, _, rfl, by omega, len_log h2, fun r r0 r1 => ?_⟩
    obtain ⟨d, hd, e⟩ := pick_mem r0 r1
    exact ⟨_, e, hP d hd⟩
theorem law_is_integer : ∀ as P, sp_is_integer as P → t_is_integer { nx := fun _ => P .none, rt := P } (startD 1 as) := by
  rintro _ P ⟨d, rfl, hP⟩
  cases d <;> first | exact ⟨_, rfl, _, rfl, _, rfl, _, rfl, hP⟩ | exact ⟨_, rfl, _, rfl, hP⟩
theorem law__law_is_whole : ∀ as P, sp__law_is_whole as P → t__law_is_whole { nx := fun _ => P .none, rt := P } (startD 1 as) := by
  rintro _ P ⟨d, rfl, hP⟩
  cases d <;> first | exact ⟨_, rfl, _, rfl, _, rfl, _, rfl, hP⟩ | exact ⟨_, rfl, _, rfl, hP⟩
theorem law__law_with : ∀ as P, sp__law_with as P → t__law_with { nx := fun _ => P .none, rt := P } (startD 3 as) := by
  rintro _ P ⟨ds, i, v, rfl, hi, hr, hP⟩
  walk_at "ev"
  rw [cut_hi (by omega)]
  refine ⟨_, oAdd_tup (le_line (by simp; omega)), ?_⟩
  walk_at "ev"
  rw [show (i : Int) + 1 = ((i + 1 : Nat) : Int) from rfl, cut_lo (by omega)]
  refine ⟨_, oAdd_tup (le_line (by simp; omega)), ?_⟩
  have e : ds.take i ++ [v] ++ ds.drop (i + 1) = ds.set i v := by
    rw [List.set_eq_take_append_cons_drop, if_pos hi, List.append_assoc]
    rfl
  rw [e]
  exact hP
theorem law__law_mixed : ∀ as P, sp__law_mixed as P → t__law_mixed { nx := fun _ => P .none, rt := P } (startD 4 as) := by
  rintro _ P ⟨l, rfl, hl, hP⟩
  refine ⟨_, rfl, _, rfl, ?_⟩
  walk_at "ev"
  refine while_to (n := l.length) (fun k ρ => ∃ L F : List Nat, L.length = k ∧ (F ++ L).Perm l ∧ ρ = [.deck, .val (nD l), .own (L.map fun (k : Nat) => .int (k : Int)), .own (F.map fun (k : Nat) => .int (k : Int))]) ⟨l, [], rfl, List.Perm.refl _, rfl⟩ ?_ ?_
  · rintro k ρ K ⟨L, F, hk, ho, rfl⟩ hK
    have hlen := ho.length_eq
    rw [List.length_append] at hlen
    refine ⟨_, rfl, le_line (by simp), _, cNe_nil (okD_nats L), ite_ndec (fun c => ?_) fun c => by rw [List.map_eq_nil_iff] at c; subst c; cases hk⟩
    refine ⟨_, _, rfl, by decide, rfl, rfl, _, rfl, _, rfl, _, rfl, by rw [List.length_map]; omega, by rw [List.length_map]; exact len_log (by omega), fun r r0 r1 => ?_⟩
    rw [List.length_map] at r1
    have hr : r.toNat < L.length := by omega
    refine ⟨r, r.toNat, .int (L[r.toNat]'hr : Nat), rfl, by omega, ?_, by rw [List.getElem?_map, List.getElem?_eq_getElem hr]; rfl, lt_line (by rw [List.length_map]; omega), ?_⟩
    · unfold ixN
      rw [List.length_map, if_pos (by omega), if_pos (by omega)]
    · refine hK _ ⟨L.eraseIdx r.toNat, F ++ [L[r.toNat]'hr], by rw [List.length_eraseIdx_of_lt hr]; omega, ?_, ?_⟩
      · refine List.Perm.trans ?_ ho
        rw [List.append_assoc]
        exact List.Perm.append_left _ (erase_perm L r.toNat hr)
      · rw [← map_erase, List.map_append]
        rfl
  · rintro ρ K ⟨L, F, hk, ho, rfl⟩
    obtain rfl : L = [] := List.eq_nil_of_length_eq_zero hk
    rw [List.append_nil] at ho
    refine ⟨_, rfl, le_line (by simp), _, cNe_nil rfl, ?_⟩
    refine ⟨?_⟩
    exact ⟨_, rfl, hP F ho⟩
theorem law__law_odd : ∀ as P, sp__law_odd as P → t__law_odd { nx := fun _ => P .none, rt := P } (startD 2 as) := by
  rintro _ P ⟨rfl, hP⟩
  have e59 : oPow (.int 10) (.int 59) = some (.int (10 ^ 59)) := oPow_int ⟨by decide, by decide, by decide⟩
  walk_at "ev"
  exact ⟨_, .inl rfl, by simp, by simp, fun d hd => hP d (it_all (by decide +kernel) d hd)⟩
theorem bools_allD (f : D → Bool) (ds : List D) : fAll [.list (ds.map fun d => PyData.bool (f d))] = some (.bool (ds.all f)) := by
  have e : ds.map (fun d => PyData.bool (f d)) = (ds.map f).map PyData.bool := by rw [List.map_map]; rfl
  rw [e]
  show (boolsOf _).map _ = _
  rw [boolsOf_map]
  show some (PyData.bool _) = _
  rw [List.all_map]
  rfl
theorem allI_ints : ∀ ds : List D, ds.all isI = true → ∃ ns : List Int, ds = ns.map .int
  | [], _ => ⟨[], rfl⟩
  | .int z :: r, h => by
    obtain ⟨ns, rfl⟩ := allI_ints r (by simpa [isI] using h)
    exact ⟨z :: ns, rfl⟩
  | .none :: r, h => by cases h
  | .bool b :: r, h => by cases h
  | .str x :: r, h => by cases h
  | .list x :: r, h => by cases h
  | .tuple x :: r, h => by cases h
  | .dict x :: r, h => by cases h
theorem toI_ints (ns : List Int) : (ns.map PyData.int).map toI = ns := by
  rw [List.map_map]
  exact List.map_id _
theorem law_item_fault : ∀ as P, sp_item_fault as P → t_item_fault { nx := fun _ => P .none, rt := P } (startD 4 as) := by
  rintro _ P ⟨ns, rfl, hP⟩
  walk_at "ev"
  refine for_in (fun i ρ => i ≤ ns.length ∧ ∃ (m : Int) (s2 s3 : DL.Slot), scanG 0 (-1) ns = scanG i m (ns.drop i) ∧ ρ = [.val (.tuple (ns.map .int)), .val (.int m), s2, s3]) ⟨by omega, -1, .nil, .nil, rfl, rfl⟩ ?_ ?_
  · rintro i d ρ K e ⟨hi, m, s2, s3, hs, rfl⟩ hK
    obtain ⟨a, x, ea, ex, rfl⟩ := zipD_get e
    obtain ⟨_, rfl⟩ := rangeD_get ea
    have hi2 : i < ns.length := by have := (List.getElem?_eq_some_iff.mp ex).1; rwa [List.length_map] at this
    rw [List.getElem?_map, List.getElem?_eq_getElem hi2] at ex
    cases ex
    have ed : ns.drop i = ns[i] :: ns.drop (i + 1) := List.drop_eq_getElem_cons hi2
    rw [ed] at hs
    obtain ⟨z, hz⟩ : ∃ z, z = ns[i] := ⟨_, rfl⟩
    rw [← hz] at hs ⊢
    have bad : ¬ (0 ≤ z ∧ z ≤ m + 1) → P (.tuple [.str "item", .int (0 + (i : Int))]) := fun h => by
      rw [hs] at hP
      have e : scanG i m (z :: ns.drop (i + 1)) = .tuple [.str "item", .int (i : Int)] := if_neg h
      rw [e] at hP
      rw [Int.zero_add]
      exact hP
    refine ⟨_, rfl, _, _, rfl, _, _, rfl, rfl, ?_⟩
    walk_at "ev"
    refine ite_dec (fun c1 => ?_) fun c1 => ?_
    · refine ⟨_, rfl, _, rfl, _, rfl, ?_⟩
      refine ite_ndec (fun c2 => ?_) fun c2 => ?_
      · walk_at "ev"
        exact bad fun h => by omega
      · refine ⟨?_⟩
        refine ⟨_, rfl, _, rfl, _, fMax_int _ _, ?_⟩
        exact hK _ ⟨by omega, max m z, _, _, by rw [hs]; exact if_pos ⟨by omega, by omega⟩, rfl⟩
    · walk_at "ev"
      exact bad fun h => by omega
  · rintro ρ ⟨_, m, s2, s3, hs, rfl⟩
    rw [zipD_len, rangeD_len, Nat.min_self, List.length_map, List.drop_length] at hs
    rw [hs] at hP
    walk_at "ev"
    exact hP
theorem law_growth_error : ∀ as P, sp_growth_error as P → t_growth_error { nx := fun _ => P .none, rt := P } (startD 3 as) := by
  rintro _ P ⟨n, v, rfl, hn, hP⟩
  cases v with
  | tuple ds =>
    walk_at "ev"
    refine ite_ndec (fun c => ?_) fun c => ?_
    · have e : fltG n (.tuple ds) = .str "form" := if_neg (by omega)
      rw [e] at hP
      exact hP
    have e : fltG n (.tuple ds) = if ds.all isI = true then scanG 0 (-1) (ds.map toI) else .str "form" := if_pos (by omega)
    rw [e] at hP
    refine ⟨_, rfl, _, rfl, ?_⟩
    rw [← List.map_id ds]
    refine comp_mf (l := ds) (h := id) (fun d => .bool (isI d)) (le_line (by omega)) (fun d hd K hK => ⟨_, rfl, d, rfl, hK⟩) ?_
    rw [List.map_id]
    refine ⟨_, bools_allD isI ds, _, rfl, ?_⟩
    cases hA : ds.all isI with
    | false =>
      rw [if_neg (by rw [hA]; decide)] at hP
      exact hP
    | true =>
      rw [if_pos hA] at hP
      obtain ⟨ns, rfl⟩ := allI_ints ds hA
      rw [toI_ints] at hP
      exact ⟨_, rfl, ns, rfl, hP⟩
  | bool b => exact ⟨_, rfl, _, rfl, hP⟩
  | none => exact ⟨_, rfl, _, rfl, hP⟩
  | int x => exact ⟨_, rfl, _, rfl, hP⟩
  | str x => exact ⟨_, rfl, _, rfl, hP⟩
  | list ds => exact ⟨_, rfl, _, rfl, hP⟩
  | dict kvs => exact ⟨_, rfl, _, rfl, hP⟩
theorem law__law_due : ∀ as P, sp__law_due as P → t__law_due { nx := fun _ => P .none, rt := P } (startD 5 as) := by
  rintro _ P ⟨n, v, rfl, hn, hP⟩
  cases v with
  | tuple ds =>
    walk_at "ev"
    refine ite_ndec (fun c => ?_) fun c => ?_
    · have e : fltG n (.tuple ds) = .str "form" := if_neg (by omega)
      rw [e] at hP
      exact hP
    have e : fltG n (.tuple ds) = if ds.all isI = true then scanG 0 (-1) (ds.map toI) else .str "form" := if_pos (by omega)
    rw [e] at hP
    refine ⟨_, rfl, _, rfl, ?_⟩
    rw [← List.map_id ds]
    refine comp_mf (l := ds) (h := id) (fun d => .bool (isI d)) (le_line (by omega)) (fun d hd K hK => ⟨_, rfl, d, rfl, hK⟩) ?_
    rw [List.map_id]
    refine ⟨_, bools_allD isI ds, _, rfl, ?_⟩
    cases hA : ds.all isI with
    | false =>
      rw [if_neg (by rw [hA]; decide)] at hP
      exact hP
    | true =>
      rw [if_pos hA] at hP
      obtain ⟨ns, rfl⟩ := allI_ints ds hA
      rw [toI_ints] at hP
      show At _ _
      walk_at "ev"
      refine for_in (fun i ρ => i ≤ ns.length ∧ ∃ (m : Int) (s2 s3 : DL.Slot), scanG 0 (-1) ns = scanG i m (ns.drop i) ∧ ρ = [.val (.int (n : Int)), .val (.tuple (ns.map .int)), .val (.int m), s2, s3]) ⟨by omega, -1, .nil, .nil, rfl, rfl⟩ ?_ ?_
      · rintro i d ρ K e ⟨hi, m, s2, s3, hs, rfl⟩ hK
        obtain ⟨a, x, ea, ex, rfl⟩ := zipD_get e
        obtain ⟨_, rfl⟩ := rangeD_get ea
        have hi2 : i < ns.length := by have := (List.getElem?_eq_some_iff.mp ex).1; rwa [List.length_map] at this
        rw [List.getElem?_map, List.getElem?_eq_getElem hi2] at ex
        cases ex
        have ed : ns.drop i = ns[i] :: ns.drop (i + 1) := List.drop_eq_getElem_cons hi2
        rw [ed] at hs
        obtain ⟨z, hz⟩ : ∃ z, z = ns[i] := ⟨_, rfl⟩
        rw [← hz] at hs ⊢
        have bad : ¬ (0 ≤ z ∧ z ≤ m + 1) → P (.tuple [.str "item", .int (0 + (i : Int))]) := fun h => by
          rw [hs] at hP
          have e : scanG i m (z :: ns.drop (i + 1)) = .tuple [.str "item", .int (i : Int)] := if_neg h
          rw [e] at hP
          rw [Int.zero_add]
          exact hP
        refine ⟨_, rfl, _, _, rfl, _, _, rfl, rfl, ?_⟩
        walk_at "ev"
        refine ite_dec (fun c1 => ?_) fun c1 => ?_
        · refine ⟨_, rfl, _, rfl, _, rfl, ?_⟩
          refine ite_ndec (fun c2 => ?_) fun c2 => ?_
          · walk_at "ev"
            exact bad fun h => by omega
          · refine ⟨?_⟩
            refine ⟨_, rfl, _, rfl, _, fMax_int _ _, ?_⟩
            exact hK _ ⟨by omega, max m z, _, _, by rw [hs]; exact if_pos ⟨by omega, by omega⟩, rfl⟩
        · walk_at "ev"
          exact bad fun h => by omega
      · rintro ρ ⟨_, m, s2, s3, hs, rfl⟩
        rw [zipD_len, rangeD_len, Nat.min_self, List.length_map, List.drop_length] at hs
        rw [hs] at hP
        walk_at "ev"
        exact hP
  | bool b => exact ⟨_, rfl, _, rfl, hP⟩
  | none => exact ⟨_, rfl, _, rfl, hP⟩
  | int x => exact ⟨_, rfl, _, rfl, hP⟩
  | str x => exact ⟨_, rfl, _, rfl, hP⟩
  | list ds => exact ⟨_, rfl, _, rfl, hP⟩
  | dict kvs => exact ⟨_, rfl, _, rfl, hP⟩
theorem okG_ne {l : List Nat} (h : OkG l) : l ≠ [] := fun e => by
  have := h.1
  rw [e] at this
  cases this
theorem okG_mx {l : List Nat} (h : OkG l) : mx l < l.length := h.2.2 _ (mx_mem (okG_ne h))
theorem nst_inv {g : DTg} {ti te : DT D} {P : List (List D) → Envd → Prop} (I : Nat → List (List D) → Envd → Prop) : ∀ (ds : List D) (k : Nat) (lss : List (List D)) (ρ : Envd), I k lss ρ →
    (∀ (i : Nat) (d : D) (lss : List (List D)) (ρ : Envd) (K : List (List D) → Envd → Prop), ds[i]? = some d → I (k + i) lss ρ → (∀ lss' ρ', I (k + i + 1) lss' ρ' → K lss' ρ') → g d ρ fun ρ1 => ti ρ1 fun n => ∃ k m l, n = .int k ∧ ixN lss.length k = some m ∧ lss[m]? = some l ∧ te ρ1 fun v => l.length < sizeLine ∧ K (lss.set m (l ++ [v])) ρ1) →
    (∀ lss ρ, I (k + ds.length) lss ρ → P lss ρ) → nstL g ti te P ds lss ρ
  | [], k, lss, ρ, h0, _, hd => hd lss ρ h0
  | d :: ds, k, lss, ρ, h0, hs, hd => hs 0 d lss ρ (nstL g ti te P ds) rfl h0 fun lss' ρ' h' => nst_inv I ds (k + 1) lss' ρ' h' (fun i d' ls ρ1 K e h1 h2 => hs (i + 1) d' ls ρ1 K e (by rw [show k + (i + 1) = k + 1 + i by omega]; exact h1) (fun l2 ρ2 h3 => h2 l2 ρ2 (by rw [show k + 1 + i + 1 = k + (i + 1) + 1 by omega]; exact h3)))
      fun l1 ρ1 h1 => hd l1 ρ1 (by rw [List.length_cons, show k + (ds.length + 1) = k + 1 + ds.length by omega]; exact h1)
theorem nst_in {g : DTg} {ti te : DT D} {P : List (List D) → Envd → Prop} {ds : List D} {lss : List (List D)} {ρ : Envd} (I : Nat → List (List D) → Envd → Prop) (h0 : I 0 lss ρ)
    (hs : ∀ (i : Nat) (d : D) (lss : List (List D)) (ρ : Envd) (K : List (List D) → Envd → Prop), ds[i]? = some d → I i lss ρ → (∀ lss' ρ', I (i + 1) lss' ρ' → K lss' ρ') → g d ρ fun ρ1 => ti ρ1 fun n => ∃ k m l, n = .int k ∧ ixN lss.length k = some m ∧ lss[m]? = some l ∧ te ρ1 fun v => l.length < sizeLine ∧ K (lss.set m (l ++ [v])) ρ1)
    (hd : ∀ lss ρ, I ds.length lss ρ → P lss ρ) : nstL g ti te P ds lss ρ :=
  nst_inv I ds 0 lss ρ h0 (fun i d lss ρ K e h1 h2 => by
    rw [Nat.zero_add] at h1 h2
    exact hs i d lss ρ K e h1 h2) fun lss ρ h => hd lss ρ (by rw [Nat.zero_add] at h; exact h)
theorem pair_inv {g : DTg} {tk tv : DT D} {P : List (D × D) → Prop} {ρ : Envd} (I : Nat → List (D × D) → Prop) : ∀ (ds : List D) (k : Nat) (acc : List (D × D)), I k acc →
    (∀ (i : Nat) (d : D) (acc : List (D × D)) (K : List (D × D) → Prop), ds[i]? = some d → I (k + i) acc → (∀ acc', I (k + i + 1) acc' → K acc') → g d ρ fun ρ1 => tk ρ1 fun x => okKey false x ∧ tv ρ1 fun v => acc.length < sizeLine ∧ K (putD acc x v)) →
    (∀ acc, I (k + ds.length) acc → P acc) → pairL g tk tv P ρ ds acc
  | [], k, acc, h0, _, hd => hd acc h0
  | d :: ds, k, acc, h0, hs, hd => hs 0 d acc (pairL g tk tv P ρ ds) rfl h0 fun acc' h' => pair_inv I ds (k + 1) acc' h' (fun i d' a K e h1 h2 => hs (i + 1) d' a K e (by rw [show k + (i + 1) = k + 1 + i by omega]; exact h1) (fun a2 h3 => h2 a2 (by rw [show k + 1 + i + 1 = k + (i + 1) + 1 by omega]; exact h3)))
      fun a1 h1 => hd a1 (by rw [List.length_cons, show k + (ds.length + 1) = k + 1 + ds.length by omega]; exact h1)
theorem lots_get {l : List Nat} {j : Nat} (h : j ≤ mx l) : (lots l)[j]? = some (lotP l l.length j) := lotsP_get h
theorem nD_get {l : List Nat} {i : Nat} {d : D} (e : (l.map fun (k : Nat) => PyData.int (k : Int))[i]? = some d) : i < l.length ∧ d = .int (l.getD i 0 : Nat) := by
  rw [List.getElem?_map] at e
  by_cases h : i < l.length
  · rw [List.getElem?_eq_getElem h] at e
    refine ⟨h, ?_⟩
    rw [List.getD_eq_getElem?_getD, List.getElem?_eq_getElem h]
    exact (Option.some.inj e).symm
  · rw [List.getElem?_eq_none (by omega)] at e
    cases e
theorem getD_mx {l : List Nat} {i : Nat} (h : i < l.length) : l.getD i 0 ≤ mx l := by
  rw [List.getD_eq_getElem?_getD, List.getElem?_eq_getElem h]
  exact mx_ge (List.getElem_mem h)
theorem law_lots_of_growth : ∀ as P, sp_lots_of_growth as P → t_lots_of_growth { nx := fun _ => P .none, rt := P } (startD 4 as) := by
  rintro _ P ⟨l, rfl, hl, hP⟩
  have hm := okG_mx hl
  have hl2 := hl.2.1
  refine ⟨by show 1 < 4; decide, ?_⟩
  refine ⟨_, rfl, _, max_nD (okG_ne hl), _, rfl, ?_⟩
  refine ⟨_, rfl, by omega, by omega, le_line (by rw [rangeD_len]; omega), ?_⟩
  rw [rangeD_len, show ((mx l : Nat) + 1 : Int).toNat = mx l + 1 by omega]
  walk_at "ev"
  refine nst_in (fun t lss ρ => t ≤ l.length ∧ ∃ s2 s3 : DL.Slot, lss = (lotsP l t).map (fun o => o.map kN) ∧ ρ = [.val (nD l), .nil, s2, s3]) ⟨by omega, .nil, .nil, ?_, rfl⟩ ?_ ?_
  · rw [lotsP_zero, List.map_replicate]
    rfl
  · rintro t d lss ρ K e ⟨ht, s2, s3, rfl, rfl⟩ hK
    obtain ⟨a, x, ea, ex, rfl⟩ := zipD_get e
    obtain ⟨_, rfl⟩ := rangeD_get ea
    obtain ⟨ht2, rfl⟩ := nD_get ex
    have hg := getD_mx ht2
    refine ⟨_, rfl, _, _, rfl, _, _, rfl, rfl, ?_⟩
    refine ⟨_, rfl, (l.getD t 0 : Nat), l.getD t 0, (lotP l t (l.getD t 0)).map kN, rfl, ?_, ?_, ?_⟩
    · rw [List.length_map, lotsP_len]
      exact ixN_nat (by omega)
    · rw [List.getElem?_map, lotsP_get hg]; rfl
    · have := lotP_len l t (l.getD t 0)
      refine ⟨_, rfl, lt_line (by rw [List.length_map]; omega), ?_⟩
      refine hK _ _ ⟨by omega, _, _, ?_, rfl⟩
      rw [← lotsP_step hg, List.map_set, List.map_append, Int.zero_add]
      rfl
  · rintro lss ρ ⟨_, s2, s3, rfl, rfl⟩
    have hlen : (zipD (rangeD 0 ((l.map fun (k : Nat) => PyData.int (k : Int)).length)) (l.map fun (k : Nat) => PyData.int (k : Int))).length = l.length := by
      rw [zipD_len, rangeD_len, Nat.min_self, List.length_map]
    rw [hlen]
    show At _ _
    rw [List.map_map]
    walk_at "norm"
    refine ⟨_, rfl, _, rfl, ?_⟩
    refine comp_mf (l := lotsP l l.length) (h := fun o => PyData.list (o.map kN)) nD (le_line (by rw [lotsP_len]; omega)) (fun o ho K hK => ⟨_, rfl, _, rfl, hK⟩) ?_
    exact ⟨_, rfl, hP⟩
theorem mem_lots {l : List Nat} {j : Nat} {d : D} (e : ((lots l).map nD)[j]? = some d) : j ≤ mx l ∧ d = nD (lotP l l.length j) := by
  rw [List.getElem?_map] at e
  by_cases h : j ≤ mx l
  · rw [lots_get h] at e
    exact ⟨h, (Option.some.inj e).symm⟩
  · rw [List.getElem?_eq_none (show (lots l).length ≤ j by unfold lots; rw [lotsP_len]; omega)] at e
    cases e
theorem lotP_nd (l : List Nat) (j : Nat) : (lotP l l.length j).Nodup := by
  unfold lotP
  exact List.nodup_range.filter _
theorem prs_all {l : List Nat} {k : Nat} (h : k < l.length) : getD ((prs l (mx l + 1)).map kv) (kN k) = some (kN (l.getD k 0)) :=
  getD_kv_some (prs_nd l _) (prs_mem.mpr ⟨by have := getD_mx h; show l.getD k 0 < _; omega, h, rfl⟩)
theorem lot_pairs {L : List Nat} (h : L.Nodup) (j t : Nat) (ht : t < L.length) : putD ((((L.take t).map fun k => (k, j))).map kv) (kN (L[t]'ht)) (kN j) = ((L.take (t + 1)).map fun k => (k, j)).map kv := by
  have hn : L[t] ∉ L.take t := fun hm => by
    rw [← List.take_append_drop t L, List.nodup_append] at h
    exact h.2.2 _ hm _ (by rw [List.drop_eq_getElem_cons ht]; exact List.mem_cons_self ..) rfl
  rw [putD_new _ (getD_kv_none fun hm => hn (by rw [List.map_map, show ((·.1) ∘ fun (k : Nat) => (k, j)) = id from rfl, List.map_id] at hm; exact hm)), List.take_add_one, List.getElem?_eq_getElem ht, List.map_append, List.map_append]
  rfl
theorem prs_mono {l : List Nat} {j : Nat} : ∀ m, j ≤ m → (prs l j).length ≤ (prs l m).length
  | 0, h => by obtain rfl : j = 0 := by omega
               exact Nat.le_refl _
  | m + 1, h => by
    by_cases c : j = m + 1
    · rw [c]; exact Nat.le_refl _
    · refine Nat.le_trans (prs_mono m (by omega)) ?_
      show _ ≤ (prs l m ++ _).length
      rw [List.length_append]
      omega
theorem law_growth_of_lots : ∀ as P, sp_growth_of_lots as P → t_growth_of_lots { nx := fun _ => P .none, rt := P } (startD 5 as) := by
  rintro _ P ⟨l, rfl, hl, hP⟩
  have hm := okG_mx hl
  have hl2 := hl.2.1
  have hlen : (lots l).length = mx l + 1 := by unfold lots; rw [lotsP_len]
  walk_at "ev"
  refine for_in (fun j ρ => j ≤ mx l + 1 ∧ ∃ s2 s3 s4 : DL.Slot, ρ = [.val (lotsD l), .dct false ((prs l j).map kv), s2, s3, s4]) ⟨by omega, .nil, .nil, .nil, rfl⟩ ?_ ?_
  · rintro j d ρ K e ⟨hj, s2, s3, s4, rfl⟩ hK
    obtain ⟨a, x, ea, ex, rfl⟩ := zipD_get e
    obtain ⟨_, rfl⟩ := rangeD_get ea
    obtain ⟨hj2, rfl⟩ := mem_lots ex
    refine ⟨_, rfl, _, _, rfl, _, _, rfl, rfl, ?_⟩
    rw [Int.zero_add]
    refine ⟨_, rfl, ?_⟩
    have hnd := lotP_nd l j
    have hll := lotP_len l l.length j
    obtain ⟨L, hL⟩ : ∃ L, L = lotP l l.length j := ⟨_, rfl⟩
    have hpl : (prs l (j + 1)).length ≤ l.length := by rw [← prs_len]; exact prs_mono _ (by omega)
    have hes : prs l (j + 1) = prs l j ++ L.map fun k => (k, j) := by rw [hL]; rfl
    have hns := prs_nd l (j + 1)
    rw [hes] at hns hpl
    rw [List.length_append, List.length_map] at hpl
    rw [← hL] at hnd hll ⊢
    refine ⟨_, rfl, _, rfl, ?_⟩
    refine pair_inv (fun t acc => t ≤ L.length ∧ acc = ((L.take t).map fun k => (k, j)).map kv) _ 0 [] ⟨by omega, rfl⟩ ?_ ?_
    · rintro t d acc K2 e2 ⟨ht, rfl⟩ hK2
      rw [Nat.zero_add] at ht hK2 ⊢
      rw [List.getElem?_map] at e2
      have ht2 : t < L.length := by
        by_cases c : t < L.length
        · exact c
        · rw [List.getElem?_eq_none (by omega)] at e2; cases e2
      rw [List.getElem?_eq_getElem ht2] at e2
      cases e2
      refine ⟨_, rfl, okKey_int _, _, rfl, lt_line (by simp; omega), hK2 _ ⟨by omega, ?_⟩⟩
      exact lot_pairs hnd j t ht2
    · rintro acc ⟨_, rfl⟩
      have e1 : List.take (0 + (L.map fun (k : Nat) => PyData.int (k : Int)).length) L = L := by rw [Nat.zero_add, List.length_map, List.take_length]
      rw [e1]
      refine ⟨le_line (by simp; omega), ?_⟩
      refine hK _ ⟨by omega, .val (.int (j : Int)), .val (nD L), s4, ?_⟩
      rw [merge_kv _ _ hns, ← hes]
      rfl
  · rintro ρ ⟨_, s2, s3, s4, rfl⟩
    rw [zipD_len, rangeD_len, Nat.min_self, List.length_map, hlen]
    have hpl := prs_len (l := l)
    show At _ _
    walk_at "norm"
    refine ⟨_, _, rfl, _, rfl, by simp, by simp; omega, ?_⟩
    rw [List.length_map, hpl, Int.toNat_natCast]
    refine comp_rg (fun k => kN (l.getD k 0)) (le_line (by omega)) (fun k hk K hK => ?_) ?_
    · refine ⟨_, _, rfl, _, rfl, okKey_int _, _, ?_, hK⟩
      rw [Int.zero_add]
      exact prs_all hk
    · refine ⟨_, rfl, ?_⟩
      have e : (List.range l.length).map (fun k => kN (l.getD k 0)) = l.map kN := by
        apply List.ext_getElem?
        intro k
        rw [List.getElem?_map, List.getElem?_map]
        by_cases hk : k < l.length
        · rw [List.getElem?_range hk, List.getElem?_eq_getElem hk]
          show some (kN (l.getD k 0)) = _
          rw [List.getD_eq_getElem?_getD, List.getElem?_eq_getElem hk]
          rfl
        · rw [List.getElem?_eq_none (by simp; omega), List.getElem?_eq_none (by omega)]
          rfl
      rw [e]
      exact hP
theorem wRow_ix {s k m : Nat} {z : Int} (hz : z = (m : Int)) (h : m < k) : oIx (wRow s k) (.int z) = some (.int (W s m : Nat)) := by
  exact oIx_listf (g := fun (m : Nat) => PyData.int (W s m : Nat)) hz (List.getElem?_range h)
theorem wRow_zero (k : Nat) : wRow 0 k = .list (List.replicate k (.int 1)) := by
  unfold wRow
  congr 1
  apply List.ext_getElem?
  intro i
  by_cases hi : i < k
  · rw [List.getElem?_map, List.getElem?_range hi, List.getElem?_replicate, if_pos hi]; rfl
  · rw [List.getElem?_eq_none (by simp; omega), List.getElem?_eq_none (by simp; omega)]
theorem wRow_flen (s k : Nat) : fLen [wRow s k] = some (.int (k : Int)) := by
  show some (PyData.int ((List.length _ : Nat) : Int)) = _
  rw [List.length_map, List.length_range]
theorem W_mul {s m : Nat} : oAdd (.int ((((m : Int) + 1)) * (W s m : Nat))) (.int (W s (m + 1) : Nat)) = some (.int (W (s + 1) m : Nat)) := by
  show some (PyData.int _) = some (PyData.int (((m + 1) * W s m + W s (m + 1) : Nat) : Int))
  rw [Int.natCast_add, Int.natCast_mul]
  rfl
theorem law_endings_table : ∀ as P, sp_endings_table as P → t_endings_table { nx := fun _ => P .none, rt := P } (startD 5 as) := by
  rintro _ P ⟨r, rfl, hr, hP⟩
  refine ⟨le_line (by simp), _, rfl, .int ((r + 41 : Nat) : Int), rfl, .list (List.replicate (r + 41) (.int 1)), oMul_lst1 (by omega), le_line (by simp), ?_⟩
  rw [← wRow_zero]
  walk_at "norm"
  refine ⟨_, rfl, _, rfl, by omega, by omega, ?_⟩
  refine for_rg (fun t ρ => t ≤ r ∧ ∃ s2 s3 s4 : DL.Slot, ρ = [.val (.int (r : Int)), .own ((List.range (t + 1)).map fun (s : Nat) => wRow s (r + 41 - s)), s2, s3, s4]) ⟨by omega, .nil, .nil, .nil, rfl⟩ ?_ ?_
  · rintro t ρ K ht ⟨_, s2, s3, s4, rfl⟩ hK
    have ht' : t < r := ht
    have hlast : oIx (.list ((List.range (t + 1)).map fun (s : Nat) => wRow s (r + 41 - s))) (.int (-1)) = some (wRow t (r + 41 - t)) := oIx_lastf (g := fun (s : Nat) => wRow s (r + 41 - s)) (by rw [List.range_succ]; simp)
    refine ⟨_, rfl, _, rfl, _, hlast, ?_⟩
    walk_at "norm"
    obtain ⟨k, hk⟩ : ∃ k, r + 41 - t = k + 1 := ⟨r + 40 - t, by omega⟩
    rw [hk]
    refine ⟨_, rfl, _, rfl, _, wRow_flen _ _, _, rfl, _, rfl, by omega, by omega, ?_⟩
    rw [show (((k + 1 : Nat) : Int) - 1).toNat = k by omega]
    refine comp_rg (fun m => .int (W (t + 1) m : Nat)) (le_line (by omega)) (fun m hm K2 hK2 => ?_) ?_
    · refine ⟨_, rfl, _, rfl, _, rfl, _, rfl, _, wRow_ix (m := m) (by omega) (by omega), _, oMul_int ?_, _, rfl, _, rfl, _, rfl, _, wRow_ix (m := m + 1) (by omega) (by omega), ?_⟩
      · have := W_small (s := t) (m := m) (by omega) (by omega)
        exact mulOk_w 300 300 (by omega) (by omega) (by decide)
      · rw [Int.zero_add]
        exact ⟨_, W_mul, hK2⟩
    · refine ⟨lt_line (by simp; omega), hK _ ⟨by omega, .val (.int (0 + (t : Int))), .val (wRow t (k + 1)), s4, ?_⟩⟩
      rw [List.range_succ (n := t + 1), List.map_append, List.map_cons, List.map_nil, show r + 41 - (t + 1) = k by omega]
      rfl
  · rintro ρ ⟨_, s2, s3, s4, rfl⟩
    show At _ _
    walk_at "norm"
    exact ⟨_, rfl, hP⟩
theorem law_endings_number : ∀ as P, sp_endings_number as P → t_endings_number { nx := fun _ => P .none, rt := P } (startD 2 as) := by
  rintro _ P ⟨m, r, rfl, hm, hr, hP⟩
  refine ⟨_, rfl, r, rfl, hr, _, rfl, _, oIx_listf (g := fun (s : Nat) => wRow s (r + 41 - s)) rfl (List.getElem?_range (by omega)), _, rfl, _, wRow_ix rfl (by omega), hP⟩
theorem law_partings_number : ∀ as P, sp_partings_number as P → t_partings_number { nx := fun _ => P .none, rt := P } (startD 1 as) := by
  rintro _ P ⟨n, rfl, h1, h2, hP⟩
  refine ⟨_, rfl, _, rfl, 0, n - 1, ?_, by omega, by omega, hP⟩
  rw [show (n : Int) - 1 = ((n - 1 : Nat) : Int) by omega]
  rfl
theorem law__law_lots : ∀ as P, sp__law_lots as P → t__law_lots { nx := fun _ => P .none, rt := P } (startD 4 as) := by
  rintro _ P ⟨l, rfl, hl, hP⟩
  have hm := okG_mx hl
  have hl2 := hl.2.1
  have hmax := max_nD (okG_ne hl)
  refine ⟨le_line (by simp), le_line (by simp), _, rfl, _, hmax, .int ((mx l + 1 : Nat) : Int), rfl, _, _, rfl, rfl, by omega, by omega, le_line (by simp; omega), ?_⟩
  rw [Int.toNat_natCast, rep_one]
  have hz : List.replicate (mx l + 1) (PyData.tuple []) = (lotsP l 0).map nD := by
    rw [lotsP_zero, List.map_replicate]
    rfl
  rw [hz]
  walk_at "norm"
  refine ⟨_, rfl, _, rfl, ?_⟩
  refine for_in (fun t ρ => t ≤ l.length ∧ ∃ s2 s3 : DL.Slot, ρ = [.val (nD l), .own ((lotsP l t).map nD), s2, s3]) ⟨by omega, .nil, .nil, rfl⟩ ?_ ?_
  · rintro t d ρ K e ⟨ht, s2, s3, rfl⟩ hK
    obtain ⟨a, x, ea, ex, rfl⟩ := zipD_get e
    obtain ⟨_, rfl⟩ := rangeD_get ea
    obtain ⟨ht2, rfl⟩ := nD_get ex
    have hg := getD_mx ht2
    have hll := lotP_len l t (l.getD t 0)
    refine ⟨_, rfl, _, _, rfl, _, _, rfl, rfl, ?_⟩
    rw [Int.zero_add]
    refine ⟨_, rfl, _, rfl, _, rfl, _, oIx_listf (m := l.getD t 0) rfl (lotsP_get hg), _, rfl, le_line (by simp), _, oAdd_tup (le_line (by rw [List.length_map]; show _ + 1 ≤ _; omega)), _, rfl, _, l.getD t 0, rfl, ?_, ?_⟩
    · rw [List.length_map, lotsP_len]
      exact ixN_nat (by omega)
    · refine hK _ ⟨by omega, .val (.int (t : Int)), .val (.int (l.getD t 0 : Nat)), ?_⟩
      rw [← lotsP_step hg, List.map_set]
      show _ = [_, DL.Slot.own (List.set _ _ (PyData.tuple (List.map _ (_ ++ _)))), _, _]
      rw [List.map_append]
      rfl
  · rintro ρ ⟨_, s2, s3, rfl⟩
    rw [zipD_len, rangeD_len, Nat.min_self, List.length_map]
    show At _ _
    walk_at "norm"
    exact ⟨_, rfl, _, rfl, hP⟩
theorem law__law_growth : ∀ as P, sp__law_growth as P → t__law_growth { nx := fun _ => P .none, rt := P } (startD 6 as) := by
  rintro _ P ⟨n, rfl, h1, h2, hP⟩
  refine ⟨le_line (by simp), ?_⟩
  walk_at "norm"
  refine ⟨rfl, le_line (by simp), _, .inl rfl, by simp, by simp, fun d hd => ?_⟩
  have hf : ∃ f : Int, d = .int f ∧ 1 ≤ f ∧ f ≤ 5 := by
    simp only [List.mem_cons, List.not_mem_nil, or_false] at hd
    rcases hd with rfl | rfl | rfl <;> exact ⟨_, rfl, by decide, by decide⟩
  obtain ⟨f, rfl, f1, f2⟩ := hf
  clear hd
  walk_at "norm"
  refine ⟨_, rfl, _, rfl, _, rfl, by omega, by omega, ?_⟩
  refine for_rg (fun t ρ => ∃ (l : List Nat) (s4 s5 : DL.Slot), l.length = t + 1 ∧ (∀ x ∈ l, x ≤ t) ∧ ρ = [.deck, .val (.int (n : Int)), .val (nD l), .val (.int f), s4, s5]) ⟨[0], .nil, .nil, rfl, by simp, rfl⟩ ?_ ?_
  · rintro t ρ K ht ⟨l, s4, s5, hl, hx, rfl⟩ hK
    have hne : l ≠ [] := fun e => by rw [e] at hl; cases hl
    have hmx := hx _ (mx_mem hne)
    have ht' : t < n - 1 := by omega
    refine ⟨_, rfl, _, max_nD hne, ?_⟩
    walk_at "norm"
    refine ⟨_, rfl, ⟨fun d => ∃ k : Nat, d = .int (k : Int) ∧ k ≤ t + 1, ?_, ?_⟩⟩
    · refine ⟨rfl, _, rfl, _, rfl, _, rfl, by omega, log_sm 20 (by omega), fun q q0 q1 => ⟨_, cEq_int _ _, ite_dec (fun c => ?_) fun c => ?_⟩⟩
      · exact ⟨_, rfl, _, rfl, mx l + 1, rfl, by omega⟩
      · exact ⟨rfl, _, rfl, _, rfl, _, rfl, by omega, log_sm 20 (by omega), fun q q0 q1 => ⟨q.toNat, by rw [Int.toNat_of_nonneg q0], by omega⟩⟩
    · rintro _ ⟨k, rfl, hk⟩
      refine ⟨le_line (by simp), _, oAdd_tup (le_line (by rw [List.length_map, List.length_singleton]; omega)), ?_⟩
      refine hK _ ⟨l ++ [k], .val (.int (0 + (t : Int))), .val (.int (mx l : Nat)), by rw [List.length_append, hl]; rfl, fun x hx' => ?_, ?_⟩
      · rcases List.mem_append.mp hx' with h | h
        · have := hx x h; omega
        · rw [List.mem_singleton.mp h]; exact hk
      · unfold nD
        rw [List.map_append]
        rfl
  · rintro ρ ⟨l, s4, s5, hl, hx, rfl⟩
    show At _ _
    walk_at "norm"
    refine ⟨_, rfl, hP l (by omega) fun x hx' => by have := hx x hx'; omega⟩
theorem fit_nat {k : Nat} (h : k ≤ 1000) : Fit 300 4 200 (.int (k : Int)) := (fit_int (b := 300) 0 0 (Nat.lt_of_le_of_lt (show (k : Int).natAbs ≤ 1000 by omega) (by decide))).up (by decide) (by decide)
theorem scanG_fit : ∀ (ns : List Int) (i : Nat) (m : Int), i + ns.length ≤ 1000 → Fit 300 4 200 (scanG i m ns)
  | [], i, m, _ => fit_none 3 200
  | z :: r, i, m, h => by
    rw [List.length_cons] at h
    unfold scanG
    split
    · exact scanG_fit r (i + 1) _ (by omega)
    · exact (fit_tup (fit_cons (fit_str (b := 300) 0 40 (by decide +kernel) (by decide +kernel)) (fit_cons (fit_int 0 0 (Nat.lt_of_le_of_lt (show (i : Int).natAbs ≤ 1000 by omega) (by decide))) (fit_nil _ 0)))).up (by decide) (by decide)
theorem fltG_fit {n : Nat} (hn : n ≤ 40) (v : D) : Fit 300 4 200 (fltG n v) := by
  have hf : Fit 300 4 200 (.str "form") := fit_str 3 200 (by decide +kernel) (by decide +kernel)
  unfold fltG
  split
  · rename_i ds
    split
    · split
      · exact scanG_fit _ _ _ (by rw [List.length_map]; omega)
      · exact hf
    · exact hf
  · exact hf
theorem rep2g {d : D} (h : Fit 300 4 200 d) : RepOk (.list [d, d]) := (fit_list (fit_cons h (fit_cons h (fit_nil _ 0)))).ok (by decide) (by decide) (by decide) (by decide)
theorem rep3g {d : D} (h : Fit 300 4 200 d) : RepOk (.list [d, d, d]) := (fit_list (fit_cons h (fit_cons h (fit_cons h (fit_nil _ 0))))).ok (by decide) (by decide) (by decide) (by decide)
theorem W_fit {s m : Nat} (h : s + m ≤ 98) (hs : s ≤ 41) : Fit 300 4 200 (.int (W s m : Nat)) := (fit_int (b := 300) 0 0 (by rw [Int.natAbs_natCast]; exact Nat.lt_trans (W_small h hs) (by decide))).up (by decide) (by decide)
theorem lotsD_fit {l : List Nat} (h : OkG l) : Fit 300 4 6000 (lotsD l) := by
  have hm := okG_mx h
  have hl := h.2.1
  refine (fit_tup (fit_map (b := 300) (bk := 110) (dp := 2) (f := nD) (lots l) fun o ho => ?_)).up (by decide) (by rw [show (lots l).length = mx l + 1 by unfold lots; rw [lotsP_len]]; omega)
  unfold lots lotsP at ho
  obtain ⟨j, _, rfl⟩ := List.mem_map.mp ho
  have hlen := lotP_len l l.length j
  refine (fit_tup (fit_map (f := fun (k : Nat) => PyData.int (k : Int)) _ fun x hx' => fit_int 0 0 ?_)).up (by decide) (by omega)
  unfold lotP at hx'
  have := List.mem_range.mp (List.mem_filter.mp hx').1
  exact Nat.lt_of_le_of_lt (show (x : Int).natAbs ≤ 1000 by omega) (by decide)
theorem good_row {l : List Nat} (h : l.length ≤ 100) (hx : ∀ x ∈ l, x ≤ 1000000) : GoodV (.tuple [nD l]) := by
  have h1 : FitD 420 3 120 (nD l) := (fitd_tup (fitd_map (bk := 0) (dp := 1) l fun x hx' => fitd_int 0 0 (Nat.lt_of_le_of_lt (show (x : Int).natAbs ≤ 1000000 by have := hx x hx'; omega) (by decide)))).up (by decide) (by omega)
  have hd : (PyData.tuple [nD l]).hasDict = false := hasDict_all fun d hd => by
    rw [List.mem_singleton.mp hd]
    exact hasDict_all fun d hd => (cl_nats hx d hd).2.1
  refine ⟨(fitd_tup (fitd_cons h1 (fitd_nil 3 0))).up (by decide) (by decide), ?_⟩
  unfold dictOk
  rw [hd]; rfl
theorem law_law : t_law { nx := fun _ => False, rt := fun d => d = .bool true } (lawD 19) := by
  have hp30 : oPow (.int 10) (.int 30) = some (.int (10 ^ 30)) := oPow_int ⟨by decide, by decide, by decide⟩
  refine ⟨_, rfl, by omega, by omega, ?_⟩
  refine for_rg (fun _ => deckI 19) (deckI_law 19) ?_ ?_
  · rintro i ρ K hi ⟨s2, s3, s4, s5, s6, s7, s8, s9, s10, s11, s12, s13, s14, s15, s16, s17, s18, s19, s20, rfl⟩ hK
    refine ⟨rfl, rfl, le_line (by simp), _, .inl rfl, by simp, by simp, fun d hd => ?_⟩
    have hm : ∃ m : Int, d = .int m ∧ 1 ≤ m ∧ m ≤ 40 := by
      simp only [List.mem_cons, List.not_mem_nil, or_false] at hd
      rcases hd with rfl | rfl | rfl <;> exact ⟨_, rfl, by decide, by decide⟩
    obtain ⟨m, rfl, m1, m2⟩ := hm
    clear hd
    refine ⟨m, rfl, by omega, log_sm 7 (by omega), fun r r0 r1 => ?_⟩
    refine ⟨_, rfl, ?_⟩
    obtain ⟨n, hN⟩ : ∃ N : Nat, 1 + r = N := ⟨(1 + r).toNat, by omega⟩
    rw [hN]
    have h1 : 1 ≤ n := by omega
    have h2 : n ≤ 40 := by omega
    clear hN r0 r1 m1 m2
    walk_at "norm"
    refine ⟨rfl, _, rfl, n, rfl, h1, h2, fun l hl hx => ?_⟩
    have ok : OkG l := ⟨by omega, by omega, fun x hx' => by have := hx x hx'; omega⟩
    have hmx := okG_mx ok
    have hmax := max_nD (okG_ne ok)
    have hcl := cl_nats (l := l) fun x hx' => by have := hx x hx'; omega
    have hfl := fit_nD (l := l) (by omega) fun x hx' => by have := hx x hx'; omega
    obtain ⟨t, ht⟩ := fRepr_any hfl (by decide) (by decide) (by decide) (by decide)
    have gone := good_row (l := l) (by omega) fun x hx' => by have := hx x hx'; omega
    walk_at "norm"
    refine ⟨_, rfl, l, rfl, ok, _, rfl, _, ht, rfl, ?_⟩
    walk_at "norm"
    have hf1 : RepOk (.list [lotsD l, nD l, lotsD l, nD l]) := by
      have q1 : Fit 300 4 6000 (nD l) := (fit_tup (fit_map (f := fun (k : Nat) => PyData.int (k : Int)) _ fun x hx' => fit_int 0 0 (by have := hx x hx'; exact Nat.lt_of_le_of_lt (show (x : Int).natAbs ≤ 1000000 by omega) (by decide)))).up (by decide) (by omega)
      have q2 := lotsD_fit ok
      exact (fit_list (fit_cons q2 (fit_cons q1 (fit_cons q2 (fit_cons q1 (fit_nil _ 0)))))).ok (by decide) (by decide) (by decide) (by decide)
    refine ⟨_, rfl, l, rfl, ok, _, rfl, l, rfl, ok, _, rfl, l, rfl, ok, _, rfl, l, rfl, ok, le_line (by simp), ?_⟩
    walk_at "norm"
    refine ⟨_, rfl, _, fRepr_list hf1, _, rfl, _, rfl, le_line (by simp), _, oMul2 _ _, _, fRepr_list hf1, _, cNe_str _, ?_⟩
    conv => whnf
    refine ⟨_, rfl, _, ht, _, rfl, _, cNe_str _, ?_⟩
    refine ⟨?_⟩
    refine ⟨rfl, _, rfl, _, rfl, by omega, log_sm 20 (by omega), fun a a0 a1 => ⟨rfl, _, rfl, _, rfl, by omega, log_sm 20 (by omega), fun b b0 b1 => ?_⟩⟩
    obtain ⟨a, rfl⟩ : ∃ k : Nat, a = (k : Int) := ⟨a.toNat, by omega⟩
    obtain ⟨b, rfl⟩ : ∃ k : Nat, b = (k : Int) := ⟨b.toNat, by omega⟩
    have ha : a < n := by omega
    have hb : b < n := by omega
    clear a0 a1 b0 b1 hf1
    generalize PyData.list [lotsD l, nD l, lotsD l, nD l] = u7
    generalize lotsD l = u5
    obtain ⟨ds, hds⟩ : ∃ ds : List D, ds = l.map fun (k : Nat) => PyData.int (k : Int) := ⟨_, rfl⟩
    have hdl : ds.length = n := by rw [hds, List.length_map]; exact hl
    rw [← hds] at hcl
    have hn : nD l = .tuple ds := by rw [hds]; rfl
    rw [hn] at ht gone hmax ⊢
    refine ⟨rfl, ?_⟩
    walk_at "norm"
    refine ⟨_, rfl, _, rfl, _, rfl, _, rfl, _, rfl, _, rfl, _, rfl, ?_⟩
    walk_at "ev"
    refine ⟨_, oAdd_tup (le_line (by simp; omega)), ?_⟩
    refine ⟨le_line (by simp), rfl, rfl, fun o ho => ?_⟩
    refine ⟨_, rfl, le_line (by simp), ?_⟩
    refine ⟨_, rfl, _, rfl, rg_ok n (by omega), le_line (by simp), _, rfl, _, oMul_tup1 h1 (by omega), le_line (by simp), ?_⟩
    rw [show ((n : Int) - 0).toNat = n by omega, rg0]
    have ca : ∀ {x y : List D}, (∀ d ∈ x, DL.Cl d) → (∀ d ∈ y, DL.Cl d) → ∀ d ∈ x ++ y, DL.Cl d := fun hx hy d hd => (List.mem_append.mp hd).elim (hx d) (hy d)
    have cr : ∀ (x : Int) (n : Nat), x.natAbs < 2 ^ 420 → ∀ d ∈ List.replicate n (PyData.int x), DL.Cl d := fun x n hx d hd => by
      rw [List.eq_of_mem_replicate hd]
      exact cl_int hx
    obtain ⟨V1, hV1⟩ : ∃ V1, V1 = [PyData.tuple ds, .list ds, .tuple ds.reverse, .tuple (DL.cutD ds (some 1) none), .tuple (ds ++ [.int 0]), .tuple [], .none, o, .tuple [.tuple ds], .tuple ((List.range n).map fun (k : Nat) => PyData.int (k : Int)), .tuple (List.replicate n (.int 0))] := ⟨_, rfl⟩
    have hg1 : ∀ v ∈ V1, GoodV v := fun v hv => by
      rw [hV1] at hv
      simp only [List.mem_cons, List.not_mem_nil, or_false] at hv
      rcases hv with rfl | rfl | rfl | rfl | rfl | rfl | rfl | rfl | rfl | rfl | rfl
      · exact good_cl hcl (by omega)
      · exact good_clL hcl (by omega)
      · exact good_cl (fun d hd => hcl d (List.mem_reverse.mp hd)) (by simp; omega)
      · exact good_cl (fun d hd => hcl d (cut_mem hd)) (by have := cut_len ds (some 1) none; omega)
      · exact good_cl (ca hcl fun d hd => by rw [List.mem_singleton.mp hd]; exact cl_int (by decide)) (by simp; omega)
      · exact good_cl (fun d hd => by cases hd) (by simp)
      · exact it_none.good
      · exact ho.good
      · exact gone
      · exact good_cl (cl_nats fun x hx => by have := List.mem_range.mp hx; omega) (by simp; omega)
      · exact good_cl (cr 0 n (by decide)) (by simp; omega)
    have hl1 : V1.length = 11 := by rw [hV1]; rfl
    rw [← hV1]
    clear hV1 ho
    walk_at "norm"
    have ixb : oIx (.tuple ds) (.int (b : Int)) = some (.int (l.getD b 0 : Nat)) := by
      rw [← hn]
      exact ixT rfl (by omega)
    refine ⟨_, rfl, _, rfl, _, hmax, _, rfl, _, rfl, _, hmax, _, rfl, _, hp30, _, rfl, _, rfl, _, ixb, le_line (by simp), ?_⟩
    obtain ⟨I, hI⟩ : ∃ I, I = [PyData.int 0, .int 1, .int (-1), .int ((mx l : Nat) + 1), .int ((mx l : Nat) + 2), .bool true, .bool false, .none, .str "0", .int (10 ^ 30), .int (l.getD b 0 : Nat)] := ⟨_, rfl⟩
    have hcI : ∀ d ∈ I, DL.Cl d := fun d hd => by
      rw [hI] at hd
      simp only [List.mem_cons, List.not_mem_nil, or_false] at hd
      have hb := getD_mx (l := l) (i := b) (by omega)
      have e : (1000 : Nat) < 2 ^ 420 := by decide +kernel
      rcases hd with rfl | rfl | rfl | rfl | rfl | rfl | rfl | rfl | rfl | rfl | rfl
      · exact cl_int (by decide)
      · exact cl_int (by decide)
      · exact cl_int (by decide)
      · exact cl_int (by omega)
      · exact cl_int (by omega)
      · exact ⟨it_bool _, rfl, rfl⟩
      · exact ⟨it_bool _, rfl, rfl⟩
      · exact ⟨it_none, rfl, rfl⟩
      · exact ⟨it_of (by decide +kernel), rfl, rfl⟩
      · exact cl_int (by decide)
      · exact cl_int (by omega)
    have hIl : I.length = 11 := by rw [hI]; rfl
    refine ⟨_, rfl, ?_⟩
    rw [← hI]
    clear hI
    refine for_in (fun j ρ => j ≤ 11 ∧ ∃ (V : List D) (s11 s12 : DL.Slot), (∀ v ∈ V, GoodV v) ∧ V.length = 11 + 2 * j ∧ ρ = [.nil, .deck, .val (.int (0 + (i : Int))), .val (.int (n : Int)), .val (.tuple ds), .val u5, .val (.str t), .val u7, .val (.int (a : Int)), .val (.int (b : Int)), .own V, s11, s12, s13, s14, s15, s16, s17, s18, s19, s20]) ⟨by omega, V1, _, _, hg1, hl1, rfl⟩ ?_ ?_
    · rintro j d ρ K2 hj ⟨_, V, s11, s12, hg, hVl, rfl⟩ hK2
      have hj2 : j < 11 := by rw [← hIl]; exact (List.getElem?_eq_some_iff.mp hj).1
      have hd := hcI d (List.mem_of_getElem? hj)
      refine ⟨_, rfl, _, rfl, _, rfl, ds, a, d, rfl, by omega, by omega, ?_⟩
      have hset : ∀ (w : List D) (c : Nat) (e : D), (∀ x ∈ w, DL.Cl x) → DL.Cl e → ∀ x ∈ w.set c e, DL.Cl x := fun w c e hw he x hx => (List.mem_or_eq_of_mem_set hx).elim (hw x) (fun z => z ▸ he)
      walk_at "norm"
      refine ⟨_, rfl, _, rfl, _, rfl, _, rfl, rfl, _, rfl, _, rfl, _, rfl, le_line (by simp), _, .inl rfl, by simp, by simp, fun c hc => ?_⟩
      have hcc : DL.Cl c := by
        simp only [List.mem_cons, List.not_mem_nil, or_false] at hc
        rcases hc with rfl | rfl | rfl | rfl
        · exact cl_int (by decide)
        · exact cl_int (by have e : (1000 : Nat) < 2 ^ 420 := by decide +kernel
                           omega)
        · exact ⟨it_none, rfl, rfl⟩
        · exact cl_int (by decide)
      refine ⟨ds.set a d, b, c, rfl, by rw [List.length_set]; omega, by rw [List.length_set]; omega, le_line (by simp), ?_⟩
      refine ⟨_, rfl, le_line (by simp; omega), hK2 _ ⟨by omega, _, .val d, .val (.tuple (ds.set a d)), ?_, ?_, rfl⟩⟩
      · intro v hv
        rcases List.mem_append.mp hv with h | h
        · exact hg v h
        · simp only [List.mem_cons, List.not_mem_nil, or_false] at h
          rcases h with rfl | rfl
          · exact good_cl (hset _ _ _ hcl hd) (by rw [List.length_set]; omega)
          · exact good_cl (hset _ _ _ (hset _ _ _ hcl hd) hcc) (by rw [List.length_set, List.length_set]; omega)
      · rw [List.length_append, hVl]
        show _ + 2 = _
        omega
    · rintro ρ ⟨_, V, s11, s12, hg, hVl, rfl⟩
      rw [hIl] at hVl
      show At _ _
      walk_at "norm"
      refine ⟨_, rfl, rfl, _, rfl, l, by rw [hn], by omega, fun mm hmm => ?_⟩
      have hml : mm.length = n := by rw [hmm.length_eq]; exact hl
      refine ⟨_, rfl, _, rfl, _, rfl, 1, (n : Int) + 1, rfl, rfl, RgOk.of_le (show (0 : Int) ≤ 1 by decide) (show (n : Int) + 1 ≤ 16777216 by omega) (show (1 : Int) ≤ 16777216 by decide) (show (0 : Int) ≤ (n : Int) + 1 by omega), ?_⟩
      refine ⟨le_line (by simp), _, rfl, .int ((n - 1 : Nat) : Int), by rw [show ((n - 1 : Nat) : Int) = (n : Int) - 1 by omega]; rfl, _, oMulZ_all (by omega), le_line (by simp), _, oAdd_tup (le_line (by simp; omega)), le_line (by simp), ?_⟩
      refine ⟨_, rfl, le_line (by simp; omega), ?_⟩
      have e1 : rangeD 1 ((n : Int) + 1 - 1).toNat = (List.range n).map fun (k : Nat) => PyData.int (1 + (k : Int)) := by
        rw [show ((n : Int) + 1 - 1).toNat = n by omega]
        rfl
      rw [e1]
      obtain ⟨W1, hW1⟩ : ∃ W1, W1 = [PyData.tuple (mm.map fun (k : Nat) => PyData.int (k : Int)), .tuple ((List.range n).map fun (k : Nat) => PyData.int (1 + (k : Int))), .tuple (List.replicate (n - 1) (.int 0) ++ [.int 2])] := ⟨_, rfl⟩
      have hgW : ∀ v ∈ W1, GoodV v := fun v hv => by
        rw [hW1] at hv
        simp only [List.mem_cons, List.not_mem_nil, or_false] at hv
        rcases hv with rfl | rfl | rfl
        · exact good_cl (cl_nats fun x hx' => by have := hx x (hmm.mem_iff.mp hx'); omega) (by simp; omega)
        · refine good_cl (fun d hd => ?_) (by simp; omega)
          obtain ⟨k, hk, rfl⟩ := List.mem_map.mp hd
          have := List.mem_range.mp hk
          exact cl_int (Nat.lt_of_le_of_lt (show (1 + (k : Int)).natAbs ≤ 1000 by omega) (by decide))
        · exact good_cl (ca (cr 0 _ (by decide)) fun d hd => by rw [List.mem_singleton.mp hd]; exact cl_int (by decide)) (by simp; omega)
      rw [← hW1]
      clear hW1
      have hgall : ∀ v ∈ V ++ W1, GoodV v := fun v hv => (List.mem_append.mp hv).elim (hg v) (hgW v)
      generalize V ++ W1 = U at hgall
      walk_at "norm"
      refine ⟨_, rfl, _, rfl, ?_⟩
      refine for_in (fun _ ρ => ∃ s13 s14 s15 : DL.Slot, ρ = [.nil, .deck, .val (.int (0 + (i : Int))), .val (.int (n : Int)), .val (.tuple ds), .val u5, .val (.str t), .val u7, .val (.int (a : Int)), .val (.int (b : Int)), .val (.list U), s11, s12, s13, s14, s15, s16, s17, s18, s19, s20]) ⟨_, _, _, rfl⟩ ?_ ?_
      · rintro j d ρ K2 hj ⟨s13, s14, s15, rfl⟩ hK2
        have hd := hgall d (List.mem_of_getElem? hj)
        obtain ⟨tv, htv⟩ := hd.repr
        have hf := rep2g (fltG_fit h2 d)
        refine ⟨_, rfl, _, rfl, n, d, rfl, h2, _, rfl, _, htv, rfl, ?_⟩
        walk_at "norm"
        refine ⟨_, rfl, _, rfl, n, d, rfl, h2, _, rfl, _, rfl, n, d, rfl, h2, le_line (by simp), _, fRepr_list hf, _, rfl, _, rfl, le_line (by simp), _, fRepr_list hf, _, cNe_str _, ?_⟩
        refine ⟨_, rfl, _, htv, _, rfl, _, cNe_str _, ?_⟩
        exact hK2 _ ⟨_, _, _, rfl⟩
      · rintro ρ ⟨s13, s14, s15, rfl⟩
        exact hK _ (deckI_of _ rfl)
  · rintro ρ ⟨s2, s3, s4, s5, s6, s7, s8, s9, s10, s11, s12, s13, s14, s15, s16, s17, s18, s19, s20, rfl⟩
    show At _ _
    walk_at "norm"
    refine ⟨rfl, ⟨fun d => ∃ b : Int, d = .int b ∧ 1 ≤ b ∧ b ≤ 40, ?_, ?_⟩⟩
    · exact ⟨rfl, _, rfl, by decide, log_sm 20 (by decide), fun q q0 q1 => ⟨_, cEq_int _ _, ite_dec (fun c => ⟨40, rfl, by decide, by decide⟩) fun c => ⟨9, rfl, by decide, by decide⟩⟩⟩
    rintro _ ⟨h, rfl, hb1, hb2⟩
    refine ⟨le_line (by simp), _, .inl rfl, by simp, by simp, fun d hd => ?_⟩
    obtain ⟨H, rfl, H1, H2⟩ : ∃ x : Nat, d = .int (x : Int) ∧ 1 ≤ x ∧ x ≤ 40 := by
      simp only [List.mem_cons, List.not_mem_nil, or_false] at hd
      rcases hd with rfl | rfl | rfl
      · exact ⟨6, rfl, by decide, by decide⟩
      · exact ⟨20, rfl, by decide, by decide⟩
      · exact ⟨h.toNat, by rw [Int.toNat_of_nonneg (by omega)], by omega, by omega⟩
    clear hd hb1 hb2
    walk_at "norm"
    refine ⟨rfl, _, rfl, _, rfl, _, rfl, by omega, log_sm 20 (by omega), fun m m0 m1 => ⟨rfl, _, rfl, _, rfl, _, rfl, by omega, log_sm 20 (by omega), fun r r0 r1 => ?_⟩⟩
    obtain ⟨m, rfl⟩ : ∃ k : Nat, m = (k : Int) := ⟨m.toNat, by omega⟩
    obtain ⟨r, rfl⟩ : ∃ k : Nat, r = (k : Int) := ⟨r.toNat, by omega⟩
    have hm : m ≤ 40 := by omega
    have hr : r ≤ 40 := by omega
    clear m0 m1 r0 r1
    refine ⟨rfl, ?_⟩
    walk_at "norm"
    refine ⟨le_line (by simp), _, rfl, _, rfl, .int ((m + r : Nat) : Int), rfl, .int ((m + r + 1 : Nat) : Int), rfl, .list (List.replicate (m + r + 1) (.int 1)), oMul_lst1 (by omega), ?_⟩
    rw [← wRow_zero]
    walk_at "norm"
    refine ⟨_, rfl, _, rfl, by omega, by omega, ?_⟩
    refine for_rg (fun t ρ => t ≤ r ∧ ∃ s2 s20 : DL.Slot, ρ = [.nil, .deck, s2, s3, s4, s5, s6, s7, s8, s9, s10, s11, s12, s13, s14, s15, .val (.int (H : Int)), .val (.int (m : Int)), .val (.int (r : Int)), .val (wRow t (m + r + 1 - t)), s20]) ⟨by omega, _, _, rfl⟩ ?_ ?_
    · rintro t ρ K ht ⟨_, s2, s20, rfl⟩ hK
      have ht' : t < r := ht
      obtain ⟨k, hk⟩ : ∃ k, m + r + 1 - t = k + 1 := ⟨m + r - t, by omega⟩
      rw [hk]
      refine ⟨_, rfl, _, wRow_flen _ _, _, rfl, _, rfl, by omega, by omega, ?_⟩
      rw [show (((k + 1 : Nat) : Int) - 1).toNat = k by omega]
      refine comp_rg (fun m => .int (W (t + 1) m : Nat)) (le_line (by omega)) (fun q hq K2 hK2 => ?_) ?_
      · refine ⟨_, rfl, _, rfl, _, rfl, _, rfl, _, wRow_ix (m := q) (by omega) (by omega), _, oMul_int (mulOk_l (by omega) (by omega)), _, rfl, _, rfl, _, rfl, _, wRow_ix (m := q + 1) (by omega) (by omega), ?_⟩
        rw [Int.zero_add]
        exact ⟨_, W_mul, hK2⟩
      · refine hK _ ⟨by omega, .val (.int (0 + (t : Int))), s20, ?_⟩
        rw [show m + r + 1 - (t + 1) = k by omega]
        rfl
    · rintro ρ ⟨_, s2, s20, rfl⟩
      rw [Int.toNat_natCast]
      show At _ _
      walk_at "norm"
      have hWf := W_fit (s := r) (m := m) (by omega) (by omega)
      refine ⟨_, rfl, _, rfl, _, wRow_ix rfl (by omega), ?_⟩
      walk_at "norm"
      refine ⟨_, rfl, _, rfl, m, r, rfl, hm, hr, _, rfl, _, rfl, m, r, rfl, hm, hr, le_line (by simp), _, fRepr_list (rep2g hWf), _, rfl, _, rfl, le_line (by simp), _, fRepr_list (rep2g hWf), _, cNe_str _, ?_⟩
      refine ⟨?_⟩
      refine ⟨rfl, _, rfl, _, rfl, by omega, log_sm 20 (by omega), fun q q0 q1 => ?_⟩
      obtain ⟨n, hN⟩ : ∃ N : Nat, 1 + q = N := ⟨(1 + q).toNat, by omega⟩
      have h1 : 1 ≤ n := by omega
      have h2 : n ≤ 40 := by omega
      refine ⟨_, rfl, ?_⟩
      rw [hN]
      clear hN q0 q1
      walk_at "norm"
      refine ⟨le_line (by simp), _, rfl, .int ((n + 1 : Nat) : Int), rfl, .list (List.replicate (n + 1) (.int 1)), oMul_lst1 (by omega), ?_⟩
      rw [← wRow_zero]
      walk_at "norm"
      generalize PyData.int (W r m : Nat) = u14
      refine ⟨_, rfl, _, rfl, _, rfl, by omega, by omega, ?_⟩
      rw [show ((n : Int) - 1).toNat = n - 1 by omega]
      refine for_rg (fun t ρ => t ≤ n - 1 ∧ ∃ s2 s20 : DL.Slot, ρ = [.nil, .deck, s2, .val (.int (n : Int)), s4, s5, s6, s7, s8, s9, s10, s11, s12, s13, .val u14, s15, .val (.int (H : Int)), .val (.int (m : Int)), .val (.int (r : Int)), .val (wRow t (n + 1 - t)), s20]) ⟨by omega, _, _, rfl⟩ ?_ ?_
      · rintro t ρ K ht ⟨_, s2, s20, rfl⟩ hK
        obtain ⟨k, hk⟩ : ∃ k, n + 1 - t = k + 1 := ⟨n - t, by omega⟩
        rw [hk]
        refine ⟨_, rfl, _, wRow_flen _ _, _, rfl, _, rfl, by omega, by omega, ?_⟩
        rw [show (((k + 1 : Nat) : Int) - 1).toNat = k by omega]
        refine comp_rg (fun m => .int (W (t + 1) m : Nat)) (le_line (by omega)) (fun q hq K2 hK2 => ?_) ?_
        · refine ⟨_, rfl, _, rfl, _, rfl, _, rfl, _, wRow_ix (m := q) (by omega) (by omega), _, oMul_int (mulOk_l (by omega) (by omega)), _, rfl, _, rfl, _, rfl, _, wRow_ix (m := q + 1) (by omega) (by omega), ?_⟩
          rw [Int.zero_add]
          exact ⟨_, W_mul, hK2⟩
        · refine hK _ ⟨by omega, .val (.int (0 + (t : Int))), s20, ?_⟩
          rw [show n + 1 - (t + 1) = k by omega]
          rfl
      · rintro ρ ⟨_, s2, s20, rfl⟩
        show At _ _
        walk_at "norm"
        have hWf := W_fit (s := n - 1) (m := 0) (by omega) (by omega)
        have h3 : oMul (.list [PyData.int (W (n - 1) 0 : Nat)]) (.int 3) = some (.list [.int (W (n - 1) 0 : Nat), .int (W (n - 1) 0 : Nat), .int (W (n - 1) 0 : Nat)]) := oMul_lst1 (n := 3) (by decide)
        refine ⟨_, rfl, n, rfl, h1, by omega, _, rfl, n, rfl, h1, by omega, _, rfl, _, rfl, 0, n - 1, by rw [show (n : Int) - 1 = ((n - 1 : Nat) : Int) by omega]; rfl, by omega, by omega, le_line (by simp), _, fRepr_list (rep3g hWf), _, rfl, _, wRow_ix (m := 0) rfl (by omega), le_line (by simp), _, h3, _, fRepr_list (rep3g hWf), _, rfl, ?_⟩
        exact congrArg PyData.bool (decide_eq_true rfl)

def topS (i : Nat) : Stmt := PySem.Challenge.pw_nearlists_k36_whole_growths.main.body.getD i (.Pass ⟨0, 0, 0, 0⟩)
abbrev s_is_integer : Stmt := topS 1
abbrev s_item_fault : Stmt := topS 4
abbrev s_growth_error : Stmt := topS 3
abbrev s_lots_of_growth : Stmt := topS 5
abbrev s_growth_of_lots : Stmt := topS 6
abbrev s_endings_table : Stmt := topS 7
abbrev s_endings_number : Stmt := topS 8
abbrev s_partings_number : Stmt := topS 9
abbrev s__law_bag : Stmt := topS 11
abbrev s__law_draw : Stmt := topS 12
abbrev s__law_pick : Stmt := topS 13
abbrev s__law_is_whole : Stmt := topS 14
abbrev s__law_odd : Stmt := topS 15
abbrev s__law_mixed : Stmt := topS 16
abbrev s__law_with : Stmt := topS 17
abbrev s__law_growth : Stmt := topS 18
abbrev s__law_lots : Stmt := topS 19
abbrev s__law_due : Stmt := topS 20
abbrev s_law : Stmt := topS 21
section
variable {Pg : Program} {w : World} {K : PySem.W.Frag} {mg : Str → Option Value} {base : Heap}
theorem sc_is_integer : FnScope ["value"] ["value"] (defScope s_is_integer) := ⟨rfl, rfl, rfl, by decide +kernel, rfl, by decide +kernel, by decide +kernel⟩
theorem ok_is_integer {f : Addr} {fd : FuncData} (F : Fun K "is_integer" "is_integer" s_is_integer f fd) (hm : mg "is_integer" = some (.ref f)) (m_isinstance : mg "isinstance" = none) (m_int : mg "int" = none) (m_bool : mg "bool" = none) : Cal Pg w K mg base srcT 1 "is_integer" s_is_integer ["value"] sp_is_integer := by
  refine cal_mk F hm sc_is_integer (fun _ _ _ _ _ _ us hl => match us, hl with | [_], _ => rfl) ar_is_integer fun cdv A outer s H E hr hgd => ?_
  have hu : (cxOf CX0 Pg w K mg base ["value"] "is_integer" (defScope s_is_integer) f cdv A outer s H E).nox.A.units + 64 < cLine := hr.units
  have hu5 : (cxOf CX0 Pg w K mg base ["value"] "is_integer" (defScope s_is_integer) f cdv A outer s H E).nox.A.units + 65 < cLine := room65 hr
  have hd := sc_is_integer.nd
  exact ⟨t_is_integer,
  dss_one (ds_ret (d_and (d_isi .int (by rfl) m_isinstance (by rfl) m_int (rv 0)) (d_one (d_not (d_isi .bool (by rfl) m_isinstance (by rfl) m_bool (rv 0)))))), law_is_integer⟩
theorem sc_item_fault : FnScope ["value", "most", "i", "item"] ["value"] (defScope s_item_fault) := ⟨rfl, rfl, rfl, by decide +kernel, rfl, by decide +kernel, by decide +kernel⟩
theorem ok_item_fault {f : Addr} {fd : FuncData} (F : Fun K "item_fault" "item_fault" s_item_fault f fd) (hm : mg "item_fault" = some (.ref f)) (m_enumerate : mg "enumerate" = none) (m_max : mg "max" = none) : Cal Pg w K mg base srcT 1 "item_fault" s_item_fault ["value"] sp_item_fault := by
  refine cal_mk F hm sc_item_fault (fun _ _ _ _ _ _ us hl => match us, hl with | [_], _ => rfl) ar_item_fault fun cdv A outer s H E hr hgd => ?_
  have hu : (cxOf CX0 Pg w K mg base ["value", "most", "i", "item"] "item_fault" (defScope s_item_fault) f cdv A outer s H E).nox.A.units + 64 < cLine := hr.units
  have hu5 : (cxOf CX0 Pg w K mg base ["value", "most", "i", "item"] "item_fault" (defScope s_item_fault) f cdv A outer s H E).nox.A.units + 65 < cLine := room65 hr
  have hd := sc_item_fault.nd
  exact ⟨t_item_fault,
  dss_cons (ds_set 1 hd (d_un do_neg (DE.rd (d_int))))
  (dss_cons (ds_for (dit_enumA (by rfl) m_enumerate (dv 0)) (dg_tup rfl (dgs_cons (dg_name 2 hd) (dgs_cons (dg_name 3 hd) (dgs_nil))) (gl_cons (gx_name _) (gl_cons (gx_name _) (gl_nil))))
    (dss_cons (ds_if (db_not (db_chain do_le do_le (DE.rd (d_int)) (rv 3) (DE.rd (d_op do_add (rv 1) (DE.rd (d_int))))))
    (dss_one (ds_ret (d_tup (di_cons (d_str) (di_cons (dv 2) (di_nil))))))
    (dss_nil))
  (dss_one (ds_set 1 hd (d_blt (c_max' rfl) (by rfl) m_max (by decide +kernel) (dar_cons (rv 1) (dar_cons (rv 3) (dar_nil))))))))
  (dss_one (ds_ret (d_none)))), law_item_fault⟩
theorem sc_growth_error : FnScope ["n", "value", "item"] ["n", "value"] (defScope s_growth_error) := ⟨rfl, rfl, rfl, by decide +kernel, rfl, by decide +kernel, by decide +kernel⟩
theorem ok_growth_error {f : Addr} {fd : FuncData} (F : Fun K "growth_error" "growth_error" s_growth_error f fd) (hm : mg "growth_error" = some (.ref f)) (c_is_integer : Cal Pg w K mg base srcT 1 "is_integer" s_is_integer ["value"] sp_is_integer) (c_item_fault : Cal Pg w K mg base srcT 1 "item_fault" s_item_fault ["value"] sp_item_fault) (m_isinstance : mg "isinstance" = none) (m_tuple : mg "tuple" = none) (m_len : mg "len" = none) (m_all : mg "all" = none) : Cal Pg w K mg base srcT 2 "growth_error" s_growth_error ["n", "value"] sp_growth_error := by
  refine cal_mk F hm sc_growth_error (fun _ _ _ _ _ _ us hl => match us, hl with | [_, _], _ => rfl) ar_growth_error fun cdv A outer s H E hr hgd => ?_
  have hu : (cxOf CX0 Pg w K mg base ["n", "value", "item"] "growth_error" (defScope s_growth_error) f cdv A outer s H E).nox.A.units + 64 < cLine := hr.units
  have hu5 : (cxOf CX0 Pg w K mg base ["n", "value", "item"] "growth_error" (defScope s_growth_error) f cdv A outer s H E).nox.A.units + 65 < cLine := room65 hr
  have hd := sc_growth_error.nd
  exact ⟨t_growth_error,
  dss_cons (ds_if (DW.db (dw_or (db_not (db_truth (DE.rd (d_isi .tuple (by rfl) m_isinstance (by rfl) m_tuple (rv 1))))) (dw_or (db_cmp (do_ne hu) (DE.rd (d_blt c_len (by rfl) m_len (by decide +kernel) (dar_cons (rv 1) (dar_nil)))) (rv 0) (nomark _)) (dw_or1 (db_not (db_truth (DE.rd (d_blt (c_all rfl) (by rfl) m_all (by decide +kernel) (dar_cons (DE.rd (DF.de (df_lc [("item", 2)] hd (dit_seq (dv 1)) (blkOk_by (by kernel_rfl)) (fun _ _ _ _ _ => dg_name 2 hd) (fun _ _ _ _ _ => dts_nil) (fun _ _ _ _ _ => dc c_is_integer (hr.mono (by decide)) hgd (by rfl) (da_cons (dv 2) (da_nil)))))) (dar_nil))))))))))
    (dss_one (ds_ret (d_str)))
    (dss_nil))
  (dss_one (ds_ret (dc c_item_fault (hr.mono (by decide)) hgd (by rfl) (da_cons (dv 1) (da_nil))))), law_growth_error⟩
theorem sc_lots_of_growth : FnScope ["row", "found", "thing", "lot"] ["row"] (defScope s_lots_of_growth) := ⟨rfl, rfl, rfl, by decide +kernel, rfl, by decide +kernel, by decide +kernel⟩
theorem ok_lots_of_growth {f : Addr} {fd : FuncData} (F : Fun K "lots_of_growth" "lots_of_growth" s_lots_of_growth f fd) (hm : mg "lots_of_growth" = some (.ref f)) (m_range : mg "range" = none) (m_max : mg "max" = none) (m_enumerate : mg "enumerate" = none) (m_tuple : mg "tuple" = none) : Cal Pg w K mg base srcT 1 "lots_of_growth" s_lots_of_growth ["row"] sp_lots_of_growth := by
  refine cal_mk F hm sc_lots_of_growth (fun _ _ _ _ _ _ us hl => match us, hl with | [_], _ => rfl) ar_lots_of_growth fun cdv A outer s H E hr hgd => ?_
  have hu : (cxOf CX0 Pg w K mg base ["row", "found", "thing", "lot"] "lots_of_growth" (defScope s_lots_of_growth) f cdv A outer s H E).nox.A.units + 64 < cLine := hr.units
  have hu5 : (cxOf CX0 Pg w K mg base ["row", "found", "thing", "lot"] "lots_of_growth" (defScope s_lots_of_growth) f cdv A outer s H E).nox.A.units + 65 < cLine := room65 hr
  have hd := sc_lots_of_growth.nd
  exact ⟨t_lots_of_growth,
  dss_nest 1 3 (own := [("lot", 3)]) hd (dit_rg1 (by rfl) m_range (d_op do_add (DE.rd (d_blt (c_max' rfl) (by rfl) m_max (by decide +kernel) (dar_cons (rv 0) (dar_nil)))) (DE.rd (d_int)))) (blkOk_by (by kernel_rfl)) (fun _ _ _ _ _ => dg_name 3 hd) (sw_true rfl rfl rfl (by decide +kernel)) (nst_for 1 (dit_enumA (by rfl) m_enumerate (dv 0)) (dg_tup rfl (dgs_cons (dg_name 2 hd) (dgs_cons (dg_name 3 hd) (dgs_nil))) (gl_cons (gx_name _) (gl_cons (gx_name _) (gl_nil)))) (gs_tup (gss_cons (gs_name 2) (gss_cons (gs_name 3) (gss_nil)))) (pv 1) (dv 3) (dv 2))
  (dss_one (ds_ret (d_ty c_tuple (by rfl) m_tuple (by decide +kernel) (dar_cons (DE.rd (DF.de (df_lc [("lot", 3)] hd (dit_seq (dv 1)) (blkOk_by (by kernel_rfl)) (fun _ _ _ _ _ => dg_name 3 hd) (fun _ _ _ _ _ => dts_nil) (fun _ _ _ _ _ => d_ty c_tuple (by rfl) m_tuple (by decide +kernel) (dar_cons (rv 3) (dar_nil)))))) (dar_nil))))), law_lots_of_growth⟩
theorem sc_growth_of_lots : FnScope ["lots", "numbers", "number", "lot", "thing"] ["lots"] (defScope s_growth_of_lots) := ⟨rfl, rfl, rfl, by decide +kernel, rfl, by decide +kernel, by decide +kernel⟩
theorem ok_growth_of_lots {f : Addr} {fd : FuncData} (F : Fun K "growth_of_lots" "growth_of_lots" s_growth_of_lots f fd) (hm : mg "growth_of_lots" = some (.ref f)) (m_enumerate : mg "enumerate" = none) (m_tuple : mg "tuple" = none) (m_range : mg "range" = none) (m_len : mg "len" = none) : Cal Pg w K mg base srcT 1 "growth_of_lots" s_growth_of_lots ["lots"] sp_growth_of_lots := by
  refine cal_mk F hm sc_growth_of_lots (fun _ _ _ _ _ _ us hl => match us, hl with | [_], _ => rfl) ar_growth_of_lots fun cdv A outer s H E hr hgd => ?_
  have hu : (cxOf CX0 Pg w K mg base ["lots", "numbers", "number", "lot", "thing"] "growth_of_lots" (defScope s_growth_of_lots) f cdv A outer s H E).nox.A.units + 64 < cLine := hr.units
  have hu5 : (cxOf CX0 Pg w K mg base ["lots", "numbers", "number", "lot", "thing"] "growth_of_lots" (defScope s_growth_of_lots) f cdv A outer s H E).nox.A.units + 65 < cLine := room65 hr
  have hd := sc_growth_of_lots.nd
  exact ⟨t_growth_of_lots,
  dss_cons (ds_newS 1 hd dx_dctK)
  (dss_cons (ds_for (dit_enumA (by rfl) m_enumerate (dv 0)) (dg_tup rfl (dgs_cons (dg_name 2 hd) (dgs_cons (dg_name 3 hd) (dgs_nil))) (gl_cons (gx_name _) (gl_cons (gx_name _) (gl_nil))))
    (dss_one (ds_dupd 1 [("thing", 4)] hd (dit_seq (dv 3)) (blkOk_by (by kernel_rfl)) (fun _ _ _ _ _ => dg_name 4 hd) (fun _ _ _ _ _ => dv 4) (fun _ _ _ _ _ => dv 2) (pv 1))))
  (dss_one (ds_ret (d_ty c_tuple (by rfl) m_tuple (by decide +kernel) (dar_cons (DE.rd (DF.de (df_lc [("thing", 4)] hd (dit_rg1 (by rfl) m_range (d_dlen 1 (by rfl) m_len (pv 1))) (blkOk_by (by kernel_rfl)) (fun _ _ _ _ _ => dg_name 4 hd) (fun _ _ _ _ _ => dts_nil) (fun _ _ _ _ _ => d_dget 1 (hu1_5 hu5) (pv 1) (dv 4))))) (dar_nil)))))), law_growth_of_lots⟩
theorem sc_endings_table : FnScope ["r", "found", "step", "last", "m"] ["r"] (defScope s_endings_table) := ⟨rfl, rfl, rfl, by decide +kernel, rfl, by decide +kernel, by decide +kernel⟩
theorem ok_endings_table {f : Addr} {fd : FuncData} (F : Fun K "endings_table" "endings_table" s_endings_table f fd) (hm : mg "endings_table" = some (.ref f)) (m_range : mg "range" = none) (m_len : mg "len" = none) : Cal Pg w K mg base srcT 1 "endings_table" s_endings_table ["r"] sp_endings_table := by
  refine cal_mk F hm sc_endings_table (fun _ _ _ _ _ _ us hl => match us, hl with | [_], _ => rfl) ar_endings_table fun cdv A outer s H E hr hgd => ?_
  have hu : (cxOf CX0 Pg w K mg base ["r", "found", "step", "last", "m"] "endings_table" (defScope s_endings_table) f cdv A outer s H E).nox.A.units + 64 < cLine := hr.units
  have hu5 : (cxOf CX0 Pg w K mg base ["r", "found", "step", "last", "m"] "endings_table" (defScope s_endings_table) f cdv A outer s H E).nox.A.units + 65 < cLine := room65 hr
  have hd := sc_endings_table.nd
  exact ⟨t_endings_table,
  dss_cons (ds_own 1 hd (df_lst (di_cons (d_op do_mul (DE.rd (d_lst (di_cons (d_int) (di_nil)))) (DE.rd (d_op do_add (rv 0) (DE.rd (d_int))))) (di_nil))))
  (dss_cons (ds_for (dit_rg1 (by rfl) m_range (dv 0)) (dg_name 2 hd)
    (dss_cons (ds_set 3 hd (di_ix (rv 1) (DE.rd (d_un do_neg (DE.rd (d_int))))))
  (dss_one (ds_app 1 (pe_bm PySem.F.plainAttrs_list PySem.F.slot_list_append PySem.F.type_list_append mt_append (pv 1) (pa_cons (DE.pe (DF.de (df_lc [("m", 4)] hd (dit_rg1 (by rfl) m_range (d_op do_sub (DE.rd (d_blt c_len (by rfl) m_len (by decide +kernel) (dar_cons (rv 3) (dar_nil)))) (DE.rd (d_int)))) (blkOk_by (by kernel_rfl)) (fun _ _ _ _ _ => dg_name 4 hd) (fun _ _ _ _ _ => dts_nil) (fun _ _ _ _ _ => d_op do_add (DE.rd (d_op do_mul (DE.rd (d_op do_add (rv 4) (DE.rd (d_int)))) (DE.rd (di_ix (rv 3) (rv 4))))) (DE.rd (di_ix (rv 3) (DE.rd (d_op do_add (rv 4) (DE.rd (d_int)))))))))) pa_nil))))))
  (dss_frz 1 (dss_one (ds_ret (dv 1))))), law_endings_table⟩
theorem sc_endings_number : FnScope ["m", "r"] ["m", "r"] (defScope s_endings_number) := ⟨rfl, rfl, rfl, by decide +kernel, rfl, by decide +kernel, by decide +kernel⟩
theorem ok_endings_number {f : Addr} {fd : FuncData} (F : Fun K "endings_number" "endings_number" s_endings_number f fd) (hm : mg "endings_number" = some (.ref f)) (c_endings_table : Cal Pg w K mg base srcT 1 "endings_table" s_endings_table ["r"] sp_endings_table) : Cal Pg w K mg base srcT 2 "endings_number" s_endings_number ["m", "r"] sp_endings_number := by
  refine cal_mk F hm sc_endings_number (fun _ _ _ _ _ _ us hl => match us, hl with | [_, _], _ => rfl) ar_endings_number fun cdv A outer s H E hr hgd => ?_
  have hu : (cxOf CX0 Pg w K mg base ["m", "r"] "endings_number" (defScope s_endings_number) f cdv A outer s H E).nox.A.units + 64 < cLine := hr.units
  have hu5 : (cxOf CX0 Pg w K mg base ["m", "r"] "endings_number" (defScope s_endings_number) f cdv A outer s H E).nox.A.units + 65 < cLine := room65 hr
  have hd := sc_endings_number.nd
  exact ⟨t_endings_number,
  dss_one (ds_ret (di_ix (DE.rd (di_ix (DE.rd (dc c_endings_table (hr.mono (by decide)) hgd (by rfl) (da_cons (dv 1) (da_nil)))) (rv 1))) (rv 0))), law_endings_number⟩
theorem sc_partings_number : FnScope ["n"] ["n"] (defScope s_partings_number) := ⟨rfl, rfl, rfl, by decide +kernel, rfl, by decide +kernel, by decide +kernel⟩
theorem ok_partings_number {f : Addr} {fd : FuncData} (F : Fun K "partings_number" "partings_number" s_partings_number f fd) (hm : mg "partings_number" = some (.ref f)) (c_endings_number : Cal Pg w K mg base srcT 2 "endings_number" s_endings_number ["m", "r"] sp_endings_number) : Cal Pg w K mg base srcT 3 "partings_number" s_partings_number ["n"] sp_partings_number := by
  refine cal_mk F hm sc_partings_number (fun _ _ _ _ _ _ us hl => match us, hl with | [_], _ => rfl) ar_partings_number fun cdv A outer s H E hr hgd => ?_
  have hu : (cxOf CX0 Pg w K mg base ["n"] "partings_number" (defScope s_partings_number) f cdv A outer s H E).nox.A.units + 64 < cLine := hr.units
  have hu5 : (cxOf CX0 Pg w K mg base ["n"] "partings_number" (defScope s_partings_number) f cdv A outer s H E).nox.A.units + 65 < cLine := room65 hr
  have hd := sc_partings_number.nd
  exact ⟨t_partings_number,
  dss_one (ds_ret (dc c_endings_number (hr.mono (by decide)) hgd (by rfl) (da_cons (d_int) (da_cons (d_op do_sub (rv 0) (DE.rd (d_int))) (da_nil))))), law_partings_number⟩
theorem sc__law_pick : FnScope ["bag", "some"] ["bag", "some"] (defScope s__law_pick) := ⟨rfl, rfl, rfl, by decide +kernel, rfl, by decide +kernel, by decide +kernel⟩
theorem ok__law_pick {f : Addr} {fd : FuncData} (F : Fun K "_law_pick" "_law_pick" s__law_pick f fd) (hm : mg "_law_pick" = some (.ref f)) (c__law_draw : Cal Pg w K mg base srcT 1 "_law_draw" s__law_draw ["bag", "below"] sp__law_draw) (m_len : mg "len" = none) : Cal Pg w K mg base srcT 2 "_law_pick" s__law_pick ["bag", "some"] sp__law_pick := by
  refine cal_mk F hm sc__law_pick (fun _ _ _ _ _ _ us hl => match us, hl with | [_, _], _ => rfl) ar__law_pick fun cdv A outer s H E hr hgd => ?_
  have hu : (cxOf CX0 Pg w K mg base ["bag", "some"] "_law_pick" (defScope s__law_pick) f cdv A outer s H E).nox.A.units + 64 < cLine := hr.units
  have hu5 : (cxOf CX0 Pg w K mg base ["bag", "some"] "_law_pick" (defScope s__law_pick) f cdv A outer s H E).nox.A.units + 65 < cLine := room65 hr
  have hd := sc__law_pick.nd
  exact ⟨t__law_pick,
  dss_one (ds_ret (di_ix (rv 1) (DE.rd (dc c__law_draw (hr.mono (by decide)) hgd (by rfl) (da_deck (pv 0) (da_cons (d_blt c_len (by rfl) m_len (by decide +kernel) (dar_cons (rv 1) (dar_nil))) (da_nil))))))), law__law_pick⟩
theorem sc__law_is_whole : FnScope ["value"] ["value"] (defScope s__law_is_whole) := ⟨rfl, rfl, rfl, by decide +kernel, rfl, by decide +kernel, by decide +kernel⟩
theorem ok__law_is_whole {f : Addr} {fd : FuncData} (F : Fun K "_law_is_whole" "_law_is_whole" s__law_is_whole f fd) (hm : mg "_law_is_whole" = some (.ref f)) (m_isinstance : mg "isinstance" = none) (m_int : mg "int" = none) (m_bool : mg "bool" = none) : Cal Pg w K mg base srcT 1 "_law_is_whole" s__law_is_whole ["value"] sp__law_is_whole := by
  refine cal_mk F hm sc__law_is_whole (fun _ _ _ _ _ _ us hl => match us, hl with | [_], _ => rfl) ar__law_is_whole fun cdv A outer s H E hr hgd => ?_
  have hu : (cxOf CX0 Pg w K mg base ["value"] "_law_is_whole" (defScope s__law_is_whole) f cdv A outer s H E).nox.A.units + 64 < cLine := hr.units
  have hu5 : (cxOf CX0 Pg w K mg base ["value"] "_law_is_whole" (defScope s__law_is_whole) f cdv A outer s H E).nox.A.units + 65 < cLine := room65 hr
  have hd := sc__law_is_whole.nd
  exact ⟨t__law_is_whole,
  dss_one (ds_ret (d_and (d_isi .int (by rfl) m_isinstance (by rfl) m_int (rv 0)) (d_one (d_not (d_isi .bool (by rfl) m_isinstance (by rfl) m_bool (rv 0)))))), law__law_is_whole⟩
theorem sc__law_odd : FnScope ["bag", "some"] ["bag"] (defScope s__law_odd) := ⟨rfl, rfl, rfl, by decide +kernel, rfl, by decide +kernel, by decide +kernel⟩
theorem ok__law_odd {f : Addr} {fd : FuncData} (F : Fun K "_law_odd" "_law_odd" s__law_odd f fd) (hm : mg "_law_odd" = some (.ref f)) (c__law_pick : Cal Pg w K mg base srcT 2 "_law_pick" s__law_pick ["bag", "some"] sp__law_pick) : Cal Pg w K mg base srcT 3 "_law_odd" s__law_odd ["bag"] sp__law_odd := by
  refine cal_mk F hm sc__law_odd (fun _ _ _ _ _ _ us hl => match us, hl with | [_], _ => rfl) ar__law_odd fun cdv A outer s H E hr hgd => ?_
  have hu : (cxOf CX0 Pg w K mg base ["bag", "some"] "_law_odd" (defScope s__law_odd) f cdv A outer s H E).nox.A.units + 64 < cLine := hr.units
  have hu5 : (cxOf CX0 Pg w K mg base ["bag", "some"] "_law_odd" (defScope s__law_odd) f cdv A outer s H E).nox.A.units + 65 < cLine := room65 hr
  have hd := sc__law_odd.nd
  exact ⟨t__law_odd,
  dss_cons (ds_set 1 hd (d_lst (di_cons (d_none) (di_cons (d_bool) (di_cons (d_bool) (di_cons (d_str) (di_cons (d_str) (di_cons (d_str) (di_cons (d_tup (di_nil)) (di_cons (d_lst (di_nil)) (di_cons (d_dic0) (di_cons (d_tup (di_cons (d_int) (di_nil))) (di_cons (d_lst (di_cons (d_int) (di_cons (d_int) (di_nil)))) (di_cons (d_int) (di_cons (d_un do_neg (DE.rd (d_int))) (di_cons (d_op do_pow (DE.rd (d_int)) (DE.rd (d_int))) (di_cons (d_tup (di_cons (d_none) (di_cons (d_int) (di_nil)))) (di_cons (d_tup (di_cons (d_tup (di_cons (d_int) (di_nil))) (di_cons (d_int) (di_nil)))) (di_nil)))))))))))))))))))
  (dss_one (ds_ret (dc c__law_pick (hr.mono (by decide)) hgd (by rfl) (da_deck (pv 0) (da_cons (dv 1) (da_nil)))))), law__law_odd⟩
theorem sc__law_mixed : FnScope ["bag", "row", "left", "found"] ["bag", "row"] (defScope s__law_mixed) := ⟨rfl, rfl, rfl, by decide +kernel, rfl, by decide +kernel, by decide +kernel⟩
theorem ok__law_mixed {f : Addr} {fd : FuncData} (F : Fun K "_law_mixed" "_law_mixed" s__law_mixed f fd) (hm : mg "_law_mixed" = some (.ref f)) (c__law_draw : Cal Pg w K mg base srcT 1 "_law_draw" s__law_draw ["bag", "below"] sp__law_draw) (m_list : mg "list" = none) (m_len : mg "len" = none) : Cal Pg w K mg base srcT 2 "_law_mixed" s__law_mixed ["bag", "row"] sp__law_mixed := by
  refine cal_mk F hm sc__law_mixed (fun _ _ _ _ _ _ us hl => match us, hl with | [_, _], _ => rfl) ar__law_mixed fun cdv A outer s H E hr hgd => ?_
  have hu : (cxOf CX0 Pg w K mg base ["bag", "row", "left", "found"] "_law_mixed" (defScope s__law_mixed) f cdv A outer s H E).nox.A.units + 64 < cLine := hr.units
  have hu5 : (cxOf CX0 Pg w K mg base ["bag", "row", "left", "found"] "_law_mixed" (defScope s__law_mixed) f cdv A outer s H E).nox.A.units + 65 < cLine := room65 hr
  have hd := sc__law_mixed.nd
  exact ⟨t__law_mixed,
  dss_cons (ds_par2 2 3 hd (dxs_cons (DF.dx (df_list (by rfl) m_list (rv 1))) (dxs_cons (DF.dx (df_lst (di_nil))) (dxs_nil))))
  (dss_cons (ds_while (db_cmp (do_ne hu) (rv 2) (DE.rd (d_lst (di_nil))) (nomark _))
    (dss_one (ds_appPopAt 3 2 (pe_bm PySem.F.plainAttrs_list PySem.F.slot_list_append PySem.F.type_list_append mt_append (pv 3) (pa_cons (pe_bm PySem.F.plainAttrs_list PySem.F.slot_list_pop PySem.F.type_list_pop mt_popAt (pv 2) (pa_cons (DE.pe (dc c__law_draw (hr.mono (by decide)) hgd (by rfl) (da_deck (pv 0) (da_cons (d_blt c_len (by rfl) m_len (by decide +kernel) (dar_cons (rv 2) (dar_nil))) (da_nil))))) pa_nil)) pa_nil)))))
  (dss_frz 3 (dss_one (ds_ret (dv 3))))), law__law_mixed⟩
theorem sc__law_with : FnScope ["row", "place", "item"] ["row", "place", "item"] (defScope s__law_with) := ⟨rfl, rfl, rfl, by decide +kernel, rfl, by decide +kernel, by decide +kernel⟩
theorem ok__law_with {f : Addr} {fd : FuncData} (F : Fun K "_law_with" "_law_with" s__law_with f fd) (hm : mg "_law_with" = some (.ref f)) : Cal Pg w K mg base srcT 1 "_law_with" s__law_with ["row", "place", "item"] sp__law_with := by
  refine cal_mk F hm sc__law_with (fun _ _ _ _ _ _ us hl => match us, hl with | [_, _, _], _ => rfl) ar__law_with fun cdv A outer s H E hr hgd => ?_
  have hu : (cxOf CX0 Pg w K mg base ["row", "place", "item"] "_law_with" (defScope s__law_with) f cdv A outer s H E).nox.A.units + 64 < cLine := hr.units
  have hu5 : (cxOf CX0 Pg w K mg base ["row", "place", "item"] "_law_with" (defScope s__law_with) f cdv A outer s H E).nox.A.units + 65 < cLine := room65 hr
  have hd := sc__law_with.nd
  exact ⟨t__law_with,
  dss_one (ds_ret (d_op do_add (DE.rd (d_op do_add (DE.rd (d_cut (rv 0) (do_no) (do_part (dv 1)))) (DE.rd (d_tup (di_cons (dv 2) (di_nil)))))) (DE.rd (d_cut (rv 0) (do_part (d_op do_add (rv 1) (DE.rd (d_int)))) (do_no))))), law__law_with⟩
theorem sc__law_growth : FnScope ["bag", "n", "row", "few", "turn", "m"] ["bag", "n"] (defScope s__law_growth) := ⟨rfl, rfl, rfl, by decide +kernel, rfl, by decide +kernel, by decide +kernel⟩
theorem ok__law_growth {f : Addr} {fd : FuncData} (F : Fun K "_law_growth" "_law_growth" s__law_growth f fd) (hm : mg "_law_growth" = some (.ref f)) (c__law_pick : Cal Pg w K mg base srcT 2 "_law_pick" s__law_pick ["bag", "some"] sp__law_pick) (c__law_draw : Cal Pg w K mg base srcT 1 "_law_draw" s__law_draw ["bag", "below"] sp__law_draw) (m_range : mg "range" = none) (m_max : mg "max" = none) : Cal Pg w K mg base srcT 3 "_law_growth" s__law_growth ["bag", "n"] sp__law_growth := by
  refine cal_mk F hm sc__law_growth (fun _ _ _ _ _ _ us hl => match us, hl with | [_, _], _ => rfl) ar__law_growth fun cdv A outer s H E hr hgd => ?_
  have hu : (cxOf CX0 Pg w K mg base ["bag", "n", "row", "few", "turn", "m"] "_law_growth" (defScope s__law_growth) f cdv A outer s H E).nox.A.units + 64 < cLine := hr.units
  have hu5 : (cxOf CX0 Pg w K mg base ["bag", "n", "row", "few", "turn", "m"] "_law_growth" (defScope s__law_growth) f cdv A outer s H E).nox.A.units + 65 < cLine := room65 hr
  have hd := sc__law_growth.nd
  exact ⟨t__law_growth,
  dss_cons (ds_set 2 hd (d_tup (di_cons (d_int) (di_nil))))
  (dss_cons (ds_set 3 hd (dc c__law_pick (hr.mono (by decide)) hgd (by rfl) (da_deck (pv 0) (da_cons (d_lst (di_cons (d_int) (di_cons (d_int) (di_cons (d_int) (di_nil))))) (da_nil)))))
  (dss_cons (ds_for (dit_rg1 (by rfl) m_range (d_op do_sub (rv 1) (DE.rd (d_int)))) (dg_name 4 hd)
    (dss_cons (ds_set 5 hd (d_blt (c_max' rfl) (by rfl) m_max (by decide +kernel) (dar_cons (rv 2) (dar_nil))))
  (dss_one (ds_set 2 hd (d_op do_add (rv 2) (DE.rd (d_tup (di_cons (d_q (d_if (db_cmp (do_eq hu) (DE.rd (dc c__law_draw (hr.mono (by decide)) hgd (by rfl) (da_deck (pv 0) (da_cons (d_op do_add (rv 3) (DE.rd (d_int))) (da_nil))))) (DE.rd (d_int)) (nomark _)) (d_op do_add (rv 5) (DE.rd (d_int))) (dc c__law_draw (hr.mono (by decide)) hgd (by rfl) (da_deck (pv 0) (da_cons (d_op do_add (rv 5) (DE.rd (d_int))) (da_nil)))))) (di_nil)))))))))
  (dss_one (ds_ret (dv 2))))), law__law_growth⟩
theorem sc__law_lots : FnScope ["row", "found", "thing", "lot"] ["row"] (defScope s__law_lots) := ⟨rfl, rfl, rfl, by decide +kernel, rfl, by decide +kernel, by decide +kernel⟩
theorem ok__law_lots {f : Addr} {fd : FuncData} (F : Fun K "_law_lots" "_law_lots" s__law_lots f fd) (hm : mg "_law_lots" = some (.ref f)) (m_max : mg "max" = none) (m_enumerate : mg "enumerate" = none) (m_tuple : mg "tuple" = none) : Cal Pg w K mg base srcT 1 "_law_lots" s__law_lots ["row"] sp__law_lots := by
  refine cal_mk F hm sc__law_lots (fun _ _ _ _ _ _ us hl => match us, hl with | [_], _ => rfl) ar__law_lots fun cdv A outer s H E hr hgd => ?_
  have hu : (cxOf CX0 Pg w K mg base ["row", "found", "thing", "lot"] "_law_lots" (defScope s__law_lots) f cdv A outer s H E).nox.A.units + 64 < cLine := hr.units
  have hu5 : (cxOf CX0 Pg w K mg base ["row", "found", "thing", "lot"] "_law_lots" (defScope s__law_lots) f cdv A outer s H E).nox.A.units + 65 < cLine := room65 hr
  have hd := sc__law_lots.nd
  exact ⟨t__law_lots,
  dss_cons (ds_own 1 hd (df_rep (DE.rd (d_lst (di_cons (d_tup (di_nil)) (di_nil)))) (DE.rd (d_op do_add (DE.rd (d_blt (c_max' rfl) (by rfl) m_max (by decide +kernel) (dar_cons (rv 0) (dar_nil)))) (DE.rd (d_int))))))
  (dss_cons (ds_for (dit_enumA (by rfl) m_enumerate (dv 0)) (dg_tup rfl (dgs_cons (dg_name 2 hd) (dgs_cons (dg_name 3 hd) (dgs_nil))) (gl_cons (gx_name _) (gl_cons (gx_name _) (gl_nil))))
    (dss_one (ds_put 1 (d_op do_add (DE.rd (di_ix (rv 1) (rv 3))) (DE.rd (d_tup (di_cons (dv 2) (di_nil))))) (pv 1) (dv 3))))
  (dss_one (ds_ret (d_ty c_tuple (by rfl) m_tuple (by decide +kernel) (dar_cons (rv 1) (dar_nil)))))), law__law_lots⟩
theorem sc__law_due : FnScope ["n", "value", "high", "i", "item"] ["n", "value"] (defScope s__law_due) := ⟨rfl, rfl, rfl, by decide +kernel, rfl, by decide +kernel, by decide +kernel⟩
theorem ok__law_due {f : Addr} {fd : FuncData} (F : Fun K "_law_due" "_law_due" s__law_due f fd) (hm : mg "_law_due" = some (.ref f)) (c__law_is_whole : Cal Pg w K mg base srcT 1 "_law_is_whole" s__law_is_whole ["value"] sp__law_is_whole) (m_isinstance : mg "isinstance" = none) (m_tuple : mg "tuple" = none) (m_len : mg "len" = none) (m_all : mg "all" = none) (m_enumerate : mg "enumerate" = none) (m_max : mg "max" = none) : Cal Pg w K mg base srcT 2 "_law_due" s__law_due ["n", "value"] sp__law_due := by
  refine cal_mk F hm sc__law_due (fun _ _ _ _ _ _ us hl => match us, hl with | [_, _], _ => rfl) ar__law_due fun cdv A outer s H E hr hgd => ?_
  have hu : (cxOf CX0 Pg w K mg base ["n", "value", "high", "i", "item"] "_law_due" (defScope s__law_due) f cdv A outer s H E).nox.A.units + 64 < cLine := hr.units
  have hu5 : (cxOf CX0 Pg w K mg base ["n", "value", "high", "i", "item"] "_law_due" (defScope s__law_due) f cdv A outer s H E).nox.A.units + 65 < cLine := room65 hr
  have hd := sc__law_due.nd
  exact ⟨t__law_due,
  dss_cons (ds_if (DW.db (dw_or (db_not (db_truth (DE.rd (d_isi .tuple (by rfl) m_isinstance (by rfl) m_tuple (rv 1))))) (dw_or (db_cmp (do_ne hu) (DE.rd (d_blt c_len (by rfl) m_len (by decide +kernel) (dar_cons (rv 1) (dar_nil)))) (rv 0) (nomark _)) (dw_or1 (db_not (db_truth (DE.rd (d_blt (c_all rfl) (by rfl) m_all (by decide +kernel) (dar_cons (DE.rd (DF.de (df_lc [("item", 4)] hd (dit_seq (dv 1)) (blkOk_by (by kernel_rfl)) (fun _ _ _ _ _ => dg_name 4 hd) (fun _ _ _ _ _ => dts_nil) (fun _ _ _ _ _ => dc c__law_is_whole (hr.mono (by decide)) hgd (by rfl) (da_cons (dv 4) (da_nil)))))) (dar_nil))))))))))
    (dss_one (ds_ret (d_str)))
    (dss_nil))
  (dss_cons (ds_set 2 hd (d_un do_neg (DE.rd (d_int))))
  (dss_cons (ds_for (dit_enumA (by rfl) m_enumerate (dv 1)) (dg_tup rfl (dgs_cons (dg_name 3 hd) (dgs_cons (dg_name 4 hd) (dgs_nil))) (gl_cons (gx_name _) (gl_cons (gx_name _) (gl_nil))))
    (dss_cons (ds_if (db_not (db_chain do_le do_le (DE.rd (d_int)) (rv 4) (DE.rd (d_op do_add (rv 2) (DE.rd (d_int))))))
    (dss_one (ds_ret (d_tup (di_cons (d_str) (di_cons (dv 3) (di_nil))))))
    (dss_nil))
  (dss_one (ds_set 2 hd (d_blt (c_max' rfl) (by rfl) m_max (by decide +kernel) (dar_cons (rv 2) (dar_cons (rv 4) (dar_nil))))))))
  (dss_one (ds_ret (d_none))))), law__law_due⟩
theorem sc_law : FnScope ["script", "bag", "turn", "n", "row", "lots", "kept", "told", "i", "j", "values", "item", "bent", "value", "due", "stays", "high", "m", "r", "ways", "own"] ["script"] (defScope s_law) := ⟨rfl, rfl, rfl, by decide +kernel, rfl, by decide +kernel, by decide +kernel⟩
theorem ok_law {f : Addr} {fd : FuncData} (F : Fun K "law" "law" s_law f fd) (c_mk : CalMk Pg w K mg base srcT 1 "_law_bag") (c__law_draw : Cal Pg w K mg base srcT 1 "_law_draw" s__law_draw ["bag", "below"] sp__law_draw) (c__law_pick : Cal Pg w K mg base srcT 2 "_law_pick" s__law_pick ["bag", "some"] sp__law_pick) (c__law_growth : Cal Pg w K mg base srcT 3 "_law_growth" s__law_growth ["bag", "n"] sp__law_growth) (c__law_lots : Cal Pg w K mg base srcT 1 "_law_lots" s__law_lots ["row"] sp__law_lots) (c_lots_of_growth : Cal Pg w K mg base srcT 1 "lots_of_growth" s_lots_of_growth ["row"] sp_lots_of_growth) (c_growth_of_lots : Cal Pg w K mg base srcT 1 "growth_of_lots" s_growth_of_lots ["lots"] sp_growth_of_lots) (c__law_odd : Cal Pg w K mg base srcT 3 "_law_odd" s__law_odd ["bag"] sp__law_odd) (c__law_with : Cal Pg w K mg base srcT 1 "_law_with" s__law_with ["row", "place", "item"] sp__law_with) (c__law_mixed : Cal Pg w K mg base srcT 2 "_law_mixed" s__law_mixed ["bag", "row"] sp__law_mixed) (c__law_due : Cal Pg w K mg base srcT 2 "_law_due" s__law_due ["n", "value"] sp__law_due) (c_growth_error : Cal Pg w K mg base srcT 2 "growth_error" s_growth_error ["n", "value"] sp_growth_error) (c_endings_number : Cal Pg w K mg base srcT 2 "endings_number" s_endings_number ["m", "r"] sp_endings_number) (c_partings_number : Cal Pg w K mg base srcT 3 "partings_number" s_partings_number ["n"] sp_partings_number) (m_range : mg "range" = none) (m_repr : mg "repr" = none) (m_list : mg "list" = none) (m_tuple : mg "tuple" = none) (m_max : mg "max" = none) (m_len : mg "len" = none) : FnG Pg w K mg base CX0 4 f fd ["script"] (spLaw K) := by
  refine law_ok (n := 19) F sc_law c_mk (by decide) rfl rfl rfl rfl (by decide) (by decide +kernel) (by decide +kernel) (by first | exact .inl (by decide +kernel) | exact .inr (by decide +kernel)) fun cdv A outer s H E hr hgd => ?_
  have hu : (cxOf CX0 Pg w K mg base ["script", "bag", "turn", "n", "row", "lots", "kept", "told", "i", "j", "values", "item", "bent", "value", "due", "stays", "high", "m", "r", "ways", "own"] "law" (defScope s_law) f cdv A outer s H E).nox.A.units + 64 < cLine := hr.units
  have hu5 : (cxOf CX0 Pg w K mg base ["script", "bag", "turn", "n", "row", "lots", "kept", "told", "i", "j", "values", "item", "bent", "value", "due", "stays", "high", "m", "r", "ways", "own"] "law" (defScope s_law) f cdv A outer s H E).nox.A.units + 65 < cLine := room65 hr
  have hd := sc_law.nd
  exact ⟨t_law,
  dss_cons (ds_for (dit_rg1 (by rfl) m_range (d_int)) (dg_name 2 hd)
    (dss_cons (ds_set 3 hd (d_op do_add (DE.rd (d_int)) (DE.rd (dc c__law_draw (hr.mono (by decide)) hgd (by rfl) (da_deck (pv 1) (da_cons (dc c__law_pick (hr.mono (by decide)) hgd (by rfl) (da_deck (pv 1) (da_cons (d_lst (di_cons (d_int) (di_cons (d_int) (di_cons (d_int) (di_nil))))) (da_nil)))) (da_nil)))))))
  (dss_cons (ds_set 4 hd (dc c__law_growth (hr.mono (by decide)) hgd (by rfl) (da_deck (pv 1) (da_cons (dv 3) (da_nil)))))
  (dss_cons (ds_par2 5 6 hd (dxs_cons (DE.dx (dc c__law_lots (hr.mono (by decide)) hgd (by rfl) (da_cons (dv 4) (da_nil)))) (dxs_cons (DE.dx (d_blt (c_repr hu hgd) (by rfl) m_repr (by decide +kernel) (dar_cons (rv 4) (dar_nil)))) (dxs_nil))))
  (dss_cons (ds_set 7 hd (d_lst (di_cons (dc c_lots_of_growth (hr.mono (by decide)) hgd (by rfl) (da_cons (dv 4) (da_nil))) (di_cons (dc c_growth_of_lots (hr.mono (by decide)) hgd (by rfl) (da_cons (dv 5) (da_nil))) (di_cons (dck0 ["row"] [0] c_lots_of_growth (hr.mono (by decide)) hgd (by rfl) (dk_cons (dv 4) (dk_nil)) (fun _ _ _ _ _ _ us ws h1 h2 => match us, ws, h1, h2 with | [], [_], _, _ => rfl)) (di_cons (dck0 ["lots"] [0] c_growth_of_lots (hr.mono (by decide)) hgd (by rfl) (dk_cons (dv 5) (dk_nil)) (fun _ _ _ _ _ _ us ws h1 h2 => match us, ws, h1, h2 with | [], [_], _, _ => rfl)) (di_nil)))))))
  (dss_cons (ds_if (DW.db (dw_or (db_cmp (do_ne hu) (DE.rd (d_blt (c_repr hu hgd) (by rfl) m_repr (by decide +kernel) (dar_cons (rv 7) (dar_nil)))) (DE.rd (d_blt (c_repr hu hgd) (by rfl) m_repr (by decide +kernel) (dar_cons (DE.rd (d_op do_mul (DE.rd (d_lst (di_cons (dv 5) (di_cons (dv 4) (di_nil))))) (DE.rd (d_int)))) (dar_nil)))) (nomark _)) (dw_or1 (db_cmp (do_ne hu) (DE.rd (d_blt (c_repr hu hgd) (by rfl) m_repr (by decide +kernel) (dar_cons (rv 4) (dar_nil)))) (rv 6) (nomark _)))))
    (dss_one (ds_ret (d_bool)))
    (dss_nil))
  (dss_cons (ds_par2 8 9 hd (dxs_cons (DE.dx (dc c__law_draw (hr.mono (by decide)) hgd (by rfl) (da_deck (pv 1) (da_cons (dv 3) (da_nil))))) (dxs_cons (DE.dx (dc c__law_draw (hr.mono (by decide)) hgd (by rfl) (da_deck (pv 1) (da_cons (dv 3) (da_nil))))) (dxs_nil))))
  (dss_cons (ds_own 10 hd (df_lst (di_cons (dv 4) (di_cons (d_ty c_list (by rfl) m_list (by decide +kernel) (dar_cons (rv 4) (dar_nil))) (di_cons (d_revA (rv 4)) (di_cons (d_cut (rv 4) (do_part (d_int)) (do_no)) (di_cons (d_op do_add (rv 4) (DE.rd (d_tup (di_cons (d_int) (di_nil))))) (di_cons (d_tup (di_nil)) (di_cons (d_none) (di_cons (dc c__law_odd (hr.mono (by decide)) hgd (by rfl) (da_deck (pv 1) (da_nil))) (di_cons (d_tup (di_cons (dv 4) (di_nil))) (di_cons (d_rgT (by rfl) m_tuple (drg_1 (by rfl) m_range (dv 3))) (di_cons (d_op do_mul (DE.rd (d_tup (di_cons (d_int) (di_nil)))) (rv 3)) (di_nil))))))))))))))
  (dss_cons (ds_for (dit_seq (d_lst (di_cons (d_int) (di_cons (d_int) (di_cons (d_un do_neg (DE.rd (d_int))) (di_cons (d_op do_add (DE.rd (d_blt (c_max' rfl) (by rfl) m_max (by decide +kernel) (dar_cons (rv 4) (dar_nil)))) (DE.rd (d_int))) (di_cons (d_op do_add (DE.rd (d_blt (c_max' rfl) (by rfl) m_max (by decide +kernel) (dar_cons (rv 4) (dar_nil)))) (DE.rd (d_int))) (di_cons (d_bool) (di_cons (d_bool) (di_cons (d_none) (di_cons (d_str) (di_cons (d_op do_pow (DE.rd (d_int)) (DE.rd (d_int))) (di_cons (di_ix (rv 4) (rv 9)) (di_nil)))))))))))))) (dg_name 11 hd)
    (dss_cons (ds_set 12 hd (dc c__law_with (hr.mono (by decide)) hgd (by rfl) (da_cons (dv 4) (da_cons (dv 8) (da_cons (dv 11) (da_nil))))))
  (dss_one (ds_ext 10 (pe_bm PySem.F.plainAttrs_list PySem.F.slot_list_extend PySem.F.type_list_extend mt_extend (pv 10) (pa_cons (DR.pe (DE.rd (d_lst (di_cons (dv 12) (di_cons (dc c__law_with (hr.mono (by decide)) hgd (by rfl) (da_cons (dv 12) (da_cons (dv 9) (da_cons (dc c__law_pick (hr.mono (by decide)) hgd (by rfl) (da_deck (pv 1) (da_cons (d_lst (di_cons (d_un do_neg (DE.rd (d_int))) (di_cons (d_op do_add (rv 3) (DE.rd (d_int))) (di_cons (d_none) (di_cons (d_int) (di_nil)))))) (da_nil)))) (da_nil))))) (di_nil)))))) pa_nil))))))
  (dss_cons (ds_ext 10 (pe_bm PySem.F.plainAttrs_list PySem.F.slot_list_extend PySem.F.type_list_extend mt_extend (pv 10) (pa_cons (DR.pe (DE.rd (d_lst (di_cons (d_ty c_tuple (by rfl) m_tuple (by decide +kernel) (dar_cons (DE.rd (dc c__law_mixed (hr.mono (by decide)) hgd (by rfl) (da_deck (pv 1) (da_cons (dv 4) (da_nil))))) (dar_nil))) (di_cons (d_rgT (by rfl) m_tuple (drg_2 (by rfl) m_range (d_int) (d_op do_add (rv 3) (DE.rd (d_int))))) (di_cons (d_op do_add (DE.rd (d_op do_mulZ (DE.rd (d_tup (di_cons (d_int) (di_nil)))) (DE.rd (d_op do_sub (rv 3) (DE.rd (d_int)))))) (DE.rd (d_tup (di_cons (d_int) (di_nil))))) (di_nil))))))) pa_nil)))
  (dss_frz 10 (dss_one (ds_for (dit_seq (dv 10)) (dg_name 13 hd)
    (dss_cons (ds_par2 14 15 hd (dxs_cons (DE.dx (dc c__law_due (hr.mono (by decide)) hgd (by rfl) (da_cons (dv 3) (da_cons (dv 13) (da_nil))))) (dxs_cons (DE.dx (d_blt (c_repr hu hgd) (by rfl) m_repr (by decide +kernel) (dar_cons (rv 13) (dar_nil)))) (dxs_nil))))
  (dss_one (ds_if (DW.db (dw_or (db_cmp (do_ne hu) (DE.rd (d_blt (c_repr hu hgd) (by rfl) m_repr (by decide +kernel) (dar_cons (DE.rd (d_lst (di_cons (dc c_growth_error (hr.mono (by decide)) hgd (by rfl) (da_cons (dv 3) (da_cons (dv 13) (da_nil)))) (di_cons (dck0 ["value", "n"] [1, 0] c_growth_error (hr.mono (by decide)) hgd (by rfl) (dk_cons (dv 13) (dk_cons (dv 3) (dk_nil))) (fun _ _ _ _ _ _ us ws h1 h2 => match us, ws, h1, h2 with | [], [_, _], _, _ => rfl)) (di_nil))))) (dar_nil)))) (DE.rd (d_blt (c_repr hu hgd) (by rfl) m_repr (by decide +kernel) (dar_cons (DE.rd (d_lst (di_cons (dv 14) (di_cons (dv 14) (di_nil))))) (dar_nil)))) (nomark _)) (dw_or1 (db_cmp (do_ne hu) (DE.rd (d_blt (c_repr hu hgd) (by rfl) m_repr (by decide +kernel) (dar_cons (rv 13) (dar_nil)))) (rv 15) (nomark _)))))
    (dss_one (ds_ret (d_bool)))
    (dss_nil)))))))))))))))))
  (dss_cons (ds_set 16 hd (dc c__law_pick (hr.mono (by decide)) hgd (by rfl) (da_deck (pv 1) (da_cons (d_lst (di_cons (d_int) (di_cons (d_int) (di_cons (d_q (d_if (db_cmp (do_eq hu) (DE.rd (dc c__law_draw (hr.mono (by decide)) hgd (by rfl) (da_deck (pv 1) (da_cons (d_int) (da_nil))))) (DE.rd (d_int)) (nomark _)) (d_int) (d_int))) (di_nil))))) (da_nil)))))
  (dss_cons (ds_par2 17 18 hd (dxs_cons (DE.dx (dc c__law_draw (hr.mono (by decide)) hgd (by rfl) (da_deck (pv 1) (da_cons (d_op do_add (rv 16) (DE.rd (d_int))) (da_nil))))) (dxs_cons (DE.dx (dc c__law_draw (hr.mono (by decide)) hgd (by rfl) (da_deck (pv 1) (da_cons (d_op do_add (rv 16) (DE.rd (d_int))) (da_nil))))) (dxs_nil))))
  (dss_cons (ds_set 19 hd (d_op do_mul (DE.rd (d_lst (di_cons (d_int) (di_nil)))) (DE.rd (d_op do_add (DE.rd (d_op do_add (rv 17) (rv 18))) (DE.rd (d_int))))))
  (dss_cons (ds_for (dit_rg1 (by rfl) m_range (dv 18)) (dg_name 2 hd)
    (dss_one (ds_set 19 hd (DF.de (df_lc [("own", 20)] hd (dit_rg1 (by rfl) m_range (d_op do_sub (DE.rd (d_blt c_len (by rfl) m_len (by decide +kernel) (dar_cons (rv 19) (dar_nil)))) (DE.rd (d_int)))) (blkOk_by (by kernel_rfl)) (fun _ _ _ _ _ => dg_name 20 hd) (fun _ _ _ _ _ => dts_nil) (fun _ _ _ _ _ => d_op do_add (DE.rd (d_op do_mul (DE.rd (d_op do_add (rv 20) (DE.rd (d_int)))) (DE.rd (di_ix (rv 19) (rv 20))))) (DE.rd (di_ix (rv 19) (DE.rd (d_op do_add (rv 20) (DE.rd (d_int))))))))))))
  (dss_cons (ds_set 14 hd (di_ix (rv 19) (rv 17)))
  (dss_cons (ds_if (db_cmp (do_ne hu) (DE.rd (d_blt (c_repr hu hgd) (by rfl) m_repr (by decide +kernel) (dar_cons (DE.rd (d_lst (di_cons (dc c_endings_number (hr.mono (by decide)) hgd (by rfl) (da_cons (dv 17) (da_cons (dv 18) (da_nil)))) (di_cons (dck0 ["r", "m"] [1, 0] c_endings_number (hr.mono (by decide)) hgd (by rfl) (dk_cons (dv 18) (dk_cons (dv 17) (dk_nil))) (fun _ _ _ _ _ _ us ws h1 h2 => match us, ws, h1, h2 with | [], [_, _], _, _ => rfl)) (di_nil))))) (dar_nil)))) (DE.rd (d_blt (c_repr hu hgd) (by rfl) m_repr (by decide +kernel) (dar_cons (DE.rd (d_lst (di_cons (dv 14) (di_cons (dv 14) (di_nil))))) (dar_nil)))) (nomark _))
    (dss_one (ds_ret (d_bool)))
    (dss_nil))
  (dss_cons (ds_set 3 hd (d_op do_add (DE.rd (d_int)) (DE.rd (dc c__law_draw (hr.mono (by decide)) hgd (by rfl) (da_deck (pv 1) (da_cons (dv 16) (da_nil)))))))
  (dss_cons (ds_set 19 hd (d_op do_mul (DE.rd (d_lst (di_cons (d_int) (di_nil)))) (DE.rd (d_op do_add (rv 3) (DE.rd (d_int))))))
  (dss_cons (ds_for (dit_rg1 (by rfl) m_range (d_op do_sub (rv 3) (DE.rd (d_int)))) (dg_name 2 hd)
    (dss_one (ds_set 19 hd (DF.de (df_lc [("own", 20)] hd (dit_rg1 (by rfl) m_range (d_op do_sub (DE.rd (d_blt c_len (by rfl) m_len (by decide +kernel) (dar_cons (rv 19) (dar_nil)))) (DE.rd (d_int)))) (blkOk_by (by kernel_rfl)) (fun _ _ _ _ _ => dg_name 20 hd) (fun _ _ _ _ _ => dts_nil) (fun _ _ _ _ _ => d_op do_add (DE.rd (d_op do_mul (DE.rd (d_op do_add (rv 20) (DE.rd (d_int)))) (DE.rd (di_ix (rv 19) (rv 20))))) (DE.rd (di_ix (rv 19) (DE.rd (d_op do_add (rv 20) (DE.rd (d_int))))))))))))
  (dss_one (ds_ret (d_cmp (do_eq hu) (DE.rd (d_blt (c_repr hu hgd) (by rfl) m_repr (by decide +kernel) (dar_cons (DE.rd (d_lst (di_cons (dc c_partings_number (hr.mono (by decide)) hgd (by rfl) (da_cons (dv 3) (da_nil))) (di_cons (dck0 ["n"] [0] c_partings_number (hr.mono (by decide)) hgd (by rfl) (dk_cons (dv 3) (dk_nil)) (fun _ _ _ _ _ _ us ws h1 h2 => match us, ws, h1, h2 with | [], [_], _, _ => rfl)) (di_cons (dc c_endings_number (hr.mono (by decide)) hgd (by rfl) (da_cons (d_int) (da_cons (d_op do_sub (rv 3) (DE.rd (d_int))) (da_nil)))) (di_nil)))))) (dar_nil)))) (DE.rd (d_blt (c_repr hu hgd) (by rfl) m_repr (by decide +kernel) (dar_cons (DE.rd (d_op do_mul (DE.rd (d_lst (di_cons (di_ix (rv 19) (DE.rd (d_int))) (di_nil)))) (DE.rd (d_int)))) (dar_nil)))) (nomark _))))))))))))), law_law⟩
theorem scDraw : FnScope ["bag", "below", "cell", "found"] ["bag", "below"] (defScope s__law_draw) := ⟨rfl, rfl, rfl, by decide +kernel, rfl, by decide +kernel, by decide +kernel⟩
theorem while_end {c : TT} {tb : TS} {D : Ends} {σ : L2.St} {H : Hp} (X : L2.St → Hp → Prop) (hx : ∀ σ H, X σ H → D.nx σ H) (h : (∀ σ H, X σ H → D.nx σ H) → tWhile c tb D σ H) : tWhile c tb D σ H := h hx
theorem ok_draw {f : Addr} {fd : FuncData} {k : Nat} (F : Fun K "_law_draw" "_law_draw" s__law_draw f fd) (mInt : mg "int" = none) : FnG Pg w K mg base CX0 (k + 1) f fd ["bag", "below"] (lSp bagT K spDraw) := by
  refine gn_of F scDraw (fun vs H Q E ⟨as, dk, HS, P, w, r, ⟨many, e, _⟩, _⟩ => ?_) fun cdv A outer s H vs Q E hr hgd ⟨as, dk, HS, P, wd, r, ⟨many, e, h1, hlog, hP⟩, kk⟩ => ?_
  · rw [r.len, e]; rfl
  have hu : (cxOf CX0 Pg w K mg base ["bag", "below", "cell", "found"] "_law_draw" (defScope s__law_draw) f cdv A outer s H E).nox.A.units + 64 < cLine := hr.units
  have hu1 : (cxOf CX0 Pg w K mg base ["bag", "below", "cell", "found"] "_law_draw" (defScope s__law_draw) f cdv A outer s H E).nox.A.units + 1 < cLine := hu_of hr
  have hd := scDraw.nd
  refine ⟨_, PSs.nox (pss_cons (ps_while (by exact PassesOwn.never) (PW.pt (pw_and (pt_cmpR op_eq (pe_ix ix_list (pv 0) pe_int (fun _ _ => rfl)) pe_int (nomark _)) (pw_and1 (pt_cmpR (op_neD hu) (pe_ix ix_list (pv 0) pe_int (fun _ _ => rfl)) (pe_lst pa_nil) (nomark _)))))
        (pss_cons (ps_set (i := 2) hd rfl (.inl rfl) (pe_bm0 PySem.F.plainAttrs_list PySem.F.slot_list_pop PySem.F.type_list_pop mt_pop (pe_ix ix_list (pv 0) pe_int (fun _ _ => rfl))))
        (pss_one (ps_asg (pe_ifExp (pt_cmpR op_gt (pv 2) (pe_op op_pow pe_int pe_int) (nomark _)) (pv 2) pe_int) (pg_sub (pv 0) pe_int set_list)))))
      (pss_cons (ps_if (pt_cmpR op_gt (pe_ix ix_list (pv 0) pe_int (fun _ _ => rfl)) pe_int (nomark _))
        (pss_cons (ps_set (i := 3) hd rfl (.inl rfl) (pe_op op_mod (pe_callTy call_int1 (by rfl) mInt (by decide +kernel) (pa_cons (pe_ix ix_list (pv 0) pe_int (fun _ _ => rfl)) pa_nil)) (pv 1)))
        (pss_cons (ps_asg (pe_op op_fdivW (pe_ix ix_list (pv 0) pe_int (fun _ _ => rfl)) (pv 1)) (pg_sub (pv 0) pe_int set_list))
        (pss_one (ps_ret (pv 3))))) pss_nil)
      (pss_cons (ps_asg (pe_op op_mod (pe_callTy call_int1 (by rfl) mInt (by decide +kernel) (pa_cons (pe_op op_add (pe_op op_mul (pe_ix ix_list (pv 0) pe_int (fun _ _ => rfl)) pe_int) pe_int) pa_nil)) pe_int) (pg_sub (pv 0) pe_int set_list))
      (pss_one (ps_ret (pe_op op_mod (pe_callTy call_int1 (by rfl) mInt (by decide +kernel) (pa_cons (pe_op op_fdivW (pe_op op_mod (pe_callTy call_int1 (by rfl) mInt (by decide +kernel) (pa_cons (pe_op op_mul (pe_ix ix_list (pv 0) pe_int (fun _ _ => rfl)) (pe_ix ix_list (pv 0) pe_int (fun _ _ => rfl))) pa_nil)) pe_int) pe_int) pa_nil)) (pv 1))))))), ?_⟩
  subst e
  cases r with
  | cons r0 r =>
  cases r with
  | cons r1 r =>
  cases r
  obtain ⟨p, g, hdk, rfl⟩ := r0
  cases r1
  obtain ⟨hpg, gs, a, m, hp, hg, hlen, ha, hm0, hm1⟩ := wd.dkc p g hdk
  have hmod : ∀ i : Int, 0 ≤ i % many ∧ i % many < many := fun i => ⟨Int.emod_nonneg _ (by omega), Int.emod_lt_of_pos _ (by omega)⟩
  have fin : ∀ (H1 H2 : Hp) (gs' : List Int) (a' m' r : Int), Stp bagT dk HS H HS H1 → (∀ b, b ≠ p → b ≠ g → H2 b = H1 b) → H2 p = some (.lst [.ref g, .int a', .int m']) → H2 g = some (.lst (gs'.map V.int)) → gs'.length ≤ 63 → 0 ≤ a' → 0 ≤ m' → m' < 2 ^ 32 → 0 ≤ r → r < many → Q (.int r) H2 := fun H1 H2 gs' a' m' r sl a1 a2 a3 a4 a5 a6 a7 a8 a9 =>
    kk _ _ HS H2 (hP r a8 a9) (sl.trans (deck_step sl.wd hdk a1 ⟨gs', a', m', a2, a3, a4, a5, a6, a7⟩)) (.int r)
  have p9 : CPow 10 9 := ⟨by decide, by decide, by decide⟩
  refine while_end (fun σ H1 => ∃ (x : Option V) (gs : List Int) (a m : Int), σ = [some (.ref p), some (.int many), x, none] ∧ H1 p = some (.lst [.ref g, .int a, .int m]) ∧ H1 g = some (.lst (gs.map V.int)) ∧ gs.length ≤ 63 ∧ 0 ≤ a ∧ 0 ≤ m ∧ m < 2 ^ 32 ∧ Stp bagT dk HS H HS H1) ?_ fun aft => ?_
  · rintro σ H1 ⟨x, gs, a, m, rfl, hp, hg, hlen, ha, hm0, hm1, st⟩
    refine ⟨.ref p, rfl, p, _, 1, .int a, rfl, rfl, SqL.of hp, rfl, a, 0, rfl, rfl, _, rfl, ite2 (fun h => ?_) fun h => ?_⟩
    · refine ⟨.ref p, rfl, p, _, 1, .int a, rfl, rfl, SqL.of hp, rfl, .inl ⟨a, rfl, .int many, rfl, a, many, rfl, rfl, by omega, ?_⟩⟩
      have hdv : CDivW a many := ⟨by omega, hlog⟩
      refine ⟨.ref p, rfl, p, _, 1, .int a, rfl, rfl, SqL.of hp, rfl, .int many, rfl, a, many, rfl, rfl, hdv, .ref p, rfl, p, _, 1, 1, rfl, rfl, hp, rfl, ?_⟩
      refine ⟨.int (a % many), rfl, ?_⟩
      exact fin H1 _ gs (a / many) m _ st (fun b b1 b2 => by rw [upd_ne b1]) upd_same (by rw [upd_ne hpg.symm]; exact hg) hlen (Int.ediv_nonneg ha (by omega)) hm0 hm1 (hmod a).1 (hmod a).2
    · refine ⟨.ref p, rfl, p, _, 2, .int m, rfl, rfl, SqL.of hp, rfl, m, 48271, rfl, rfl, .inr (by decide), _, 13, rfl, rfl, .inl ⟨_, rfl, _, 2147483647, rfl, rfl, (show (0 : Int) < 2147483647 by decide), .ref p, rfl, p, _, 2, 2, rfl, rfl, hp, rfl, ?_⟩⟩
      obtain ⟨a1, a2⟩ : 0 ≤ (m * 48271 + 13) % 2147483647 ∧ (m * 48271 + 13) % 2147483647 < 2 ^ 32 := mod_lt32 (by decide) (by decide)
      refine ⟨.ref p, rfl, p, _, 2, .int ((m * 48271 + 13) % 2147483647), rfl, rfl, SqL.of upd_same, rfl, .ref p, rfl, p, _, 2, .int ((m * 48271 + 13) % 2147483647), rfl, rfl, SqL.of upd_same, rfl, (m * 48271 + 13) % 2147483647, (m * 48271 + 13) % 2147483647, rfl, rfl, .inl (by omega), .inl ⟨_, rfl, _, 2147483629, rfl, rfl, (show (0 : Int) < 2147483629 by decide), _, 7, rfl, rfl, ⟨by decide, by decide⟩, .inl ⟨_, rfl, .int many, rfl, _, many, rfl, rfl, by omega, ?_⟩⟩⟩
      exact fin H1 _ gs a ((m * 48271 + 13) % 2147483647) _ st (fun b b1 b2 => by rw [upd_ne b1]) upd_same (by rw [upd_ne hpg.symm]; exact hg) hlen ha a1 a2 (hmod _).1 (hmod _).2
  · refine ⟨fun n σ H1 => ∃ (x : Option V) (gs : List Int) (a m : Int), gs.length = n ∧ σ = [some (.ref p), some (.int many), x, none] ∧ H1 p = some (.lst [.ref g, .int a, .int m]) ∧ H1 g = some (.lst (gs.map V.int)) ∧ gs.length ≤ 63 ∧ 0 ≤ a ∧ 0 ≤ m ∧ m < 2 ^ 32 ∧ Stp bagT dk HS H HS H1, ⟨_, none, gs, a, m, rfl, rfl, hp, hg, hlen, ha, hm0, hm1, Stp.refl wd⟩, ?_⟩
    rintro n σ H1 ⟨x, gs, a, m, hn, rfl, hp, hg, hlen, ha, hm0, hm1, st⟩
    refine ⟨.ref p, rfl, p, _, 1, .int a, rfl, rfl, SqL.of hp, rfl, rfl, _, rfl, ite2 (fun h => ?_) fun h => ?_⟩
    · refine ⟨.ref p, rfl, p, _, 0, .ref g, rfl, rfl, SqL.of hp, rfl, Nat.zero_le _, fun l hl => ?_⟩
      have ngl := ne_of_none hg hl
      have npl := ne_of_none hp hl
      obtain ⟨sl, _, _⟩ := st.wd.layOwn (o := .lst []) hl
      have hp1 : upd H1 l (.lst []) p = some (.lst [.ref g, .int a, .int m]) := by rw [upd_ne npl]; exact hp
      have hg1 : upd H1 l (.lst []) g = some (.lst (gs.map V.int)) := by rw [upd_ne ngl]; exact hg
      refine ⟨.list (gs.map PyData.int), .list [], .lst (SqL.of hg1) (dps_ints gs), .lst (SqL.of upd_same) .nil, ints_ok gs, ints_ok [], _, rfl, ?_⟩
      rw [eqv_nil]
      generalize hH2 : upd H1 l (.lst []) = H2 at hp1 hg1 sl
      have st2 := st.trans sl
      cases gs with
      | cons z r =>
        refine iteT ?_
        refine ⟨fun σ' H' => ∃ m', m' < n ∧ ∃ (x : Option V) (gs : List Int) (a m : Int), gs.length = m' ∧ σ' = [some (.ref p), some (.int many), x, none] ∧ H' p = some (.lst [.ref g, .int a, .int m]) ∧ H' g = some (.lst (gs.map V.int)) ∧ gs.length ≤ 63 ∧ 0 ≤ a ∧ 0 ≤ m ∧ m < 2 ^ 32 ∧ Stp bagT dk HS H HS H', fun σ' H' q => q, ?_⟩
        have hx : ∃ y, ((z :: r).map V.int)[((z :: r).map V.int).length - 1]? = some (.int y) ∧ ((z :: r).map V.int).dropLast = ((z :: r).dropLast).map V.int := by
          refine ⟨(z :: r)[(z :: r).length - 1]'(by simp), ?_, by rw [List.map_dropLast]⟩
          rw [List.length_map, List.getElem?_map, List.getElem?_eq_getElem (by simp)]
          rfl
        obtain ⟨y, hy, hdl⟩ := hx
        have hl2 : ((z :: r).dropLast).length + 1 = n := by
          rw [List.length_dropLast, ← hn]
          simp only [List.length_cons]
          omega
        refine ⟨.ref p, rfl, p, _, 0, .ref g, rfl, rfl, SqL.of hp1, rfl, .inl ⟨rfl, _, SqL.of hg1⟩, g, _, .int y, rfl, rfl, hg1, hy, ?_⟩
        rw [hdl]
        generalize (z :: r).dropLast = gs' at hl2
        have hp2 : upd H2 g (.lst (gs'.map V.int)) p = some (.lst [.ref g, .int a, .int m]) := by rw [upd_ne hpg]; exact hp1
        have nxt : ∀ a', 0 ≤ a' → ∃ m', m' < n ∧ ∃ (x : Option V) (gs : List Int) (a2 m2 : Int), gs.length = m' ∧ [some (.ref p), some (.int many), some (.int y), none] = [some (.ref p), some (.int many), x, none] ∧ (upd (upd H2 g (.lst (gs'.map V.int))) p (.lst [.ref g, .int a', .int m])) p = some (.lst [.ref g, .int a2, .int m2]) ∧ (upd (upd H2 g (.lst (gs'.map V.int))) p (.lst [.ref g, .int a', .int m])) g = some (.lst (gs.map V.int)) ∧ gs.length ≤ 63 ∧ 0 ≤ a2 ∧ 0 ≤ m2 ∧ m2 < 2 ^ 32 ∧ Stp bagT dk HS H HS (upd (upd H2 g (.lst (gs'.map V.int))) p (.lst [.ref g, .int a', .int m])) := fun a' h' => by
          have e1 : (upd (upd H2 g (.lst (gs'.map V.int))) p (.lst [.ref g, .int a', .int m])) p = some (.lst [.ref g, .int a', .int m]) := upd_same
          have e2 : (upd (upd H2 g (.lst (gs'.map V.int))) p (.lst [.ref g, .int a', .int m])) g = some (.lst (gs'.map V.int)) := by rw [upd_ne hpg.symm]; exact upd_same
          have hl3 : gs'.length ≤ 63 := by omega
          exact ⟨gs'.length, by omega, some (.int y), gs', a', m, rfl, rfl, e1, e2, hl3, h', hm0, hm1, st2.trans (deck_step st2.wd hdk (fun b b1 b2 => by rw [upd_ne b1, upd_ne b2]) ⟨gs', a', m, e1, e2, hl3, h', hm0, hm1⟩)⟩
        refine ⟨.int y, rfl, 10, 9, rfl, rfl, p9, y, _, rfl, rfl, _, rfl, ite2 (fun hy2 => ?_) fun hy2 => ?_⟩
        · refine ⟨.int y, rfl, .ref p, rfl, p, _, 1, 1, rfl, rfl, hp2, rfl, ?_⟩
          exact nxt y (Int.le_of_lt (Int.lt_of_le_of_lt (show (0 : Int) ≤ 10 ^ Int.toNat 9 by decide) (of_decide_eq_true hy2)))
        · refine ⟨.ref p, rfl, p, _, 1, 1, rfl, rfl, hp2, rfl, ?_⟩
          exact nxt 0 (Int.le_refl 0)
      | nil =>
        refine iteF ?_
        exact aft _ _ ⟨x, [], a, m, rfl, hp1, hg1, hlen, ha, hm0, hm1, st2⟩
    · refine iteF ?_
      exact aft _ _ ⟨x, gs, a, m, rfl, hp, hg, hlen, ha, hm0, hm1, st⟩
theorem scBag : FnScope ["script", "cells", "mixed", "cell"] ["script"] (defScope s__law_bag) := ⟨rfl, rfl, rfl, by decide +kernel, rfl, by decide +kernel, by decide +kernel⟩
def t_p2 : DTS := yFor (xItems (xV 1)) (gV 3) (ySet 2 (x2 oMod (xF fInt (xCons (x2 oAdd (x2 oAdd (x2 oMul (xRd 2) (xC (.int 48271))) (x2 oMod (xF fInt (xCons (xRd 3) (xNil))) (xC (.int 2147483629)))) (xC (.int 5))) (xNil))) (xC (.int 2147483647))))
def I2 (cs : List Int) (ρ : Envd) : Prop := ∃ (m : Int) (x : Slot), ρ = [.nil, .val (.list (cs.map .int)), .val (.int m), x] ∧ 0 ≤ m ∧ m < 2 ^ 32
theorem law_p2 (cs : List Int) (m0 : Int) (h0 : 0 ≤ m0 ∧ m0 < 2 ^ 32) : t_p2 { nx := I2 cs, rt := fun _ => False } [.nil, .val (.list (cs.map .int)), .val (.int m0), .nil] := by
  refine ⟨_, rfl, cs.map .int, rfl, for_in (fun _ => I2 cs) ⟨m0, .nil, rfl, h0⟩ (fun i d ρ K e ⟨m, x, e2, h1, h2⟩ hK => ?_) fun ρ h => h⟩
  subst e2
  obtain ⟨c, hc, rfl⟩ := get_ints e
  walk_at "ev"
  exact hK _ ⟨_, _, rfl, (mod_lt32 (b := 2147483647) (by decide) (by decide)).1, (mod_lt32 (b := 2147483647) (by decide) (by decide)).2⟩
theorem cut63 (ns : List Int) : cutV (ns.map V.int) none (some 63) = (ns.take 63).map V.int := by
  unfold cutV
  rw [HT.sIx_none, show HT.sIx (ns.map V.int).length (ns.map V.int).length (some 63) = min 63 (ns.map V.int).length from HT.sIx_nat _ _ 63, List.drop_zero, Nat.sub_zero, List.length_map, ← List.map_take]
  congr 1
  by_cases h : 63 ≤ ns.length
  · rw [Nat.min_eq_left h]
  · rw [Nat.min_eq_right (by omega), List.take_of_length_le (Nat.le_refl _), List.take_of_length_le (by omega)]
theorem ok_mk {f : Addr} {fd : FuncData} {k : Nat} (F : Fun K "_law_bag" "_law_bag" s__law_bag f fd) (mInt : mg "int" = none) (mLen : mg "len" = none) (mAbs : mg "abs" = none) : FnG Pg w K mg base CX0 (k + 1) f fd ["script"] (spMk bagT K) := by
  refine gn_of F scBag (fun vs H Q E ⟨a, ns, e, _⟩ => by rw [e]; rfl) fun cdv A outer s H vs Q E hr hgd ⟨a, ns, e, hS, hlen, kk⟩ => ?_
  have hu : (cxOf CX0 Pg w K mg base ["script", "cells", "mixed", "cell"] "_law_bag" (defScope s__law_bag) f cdv A outer s H E).nox.A.units + 64 < cLine := hr.units
  have hu1 : (cxOf CX0 Pg w K mg base ["script", "cells", "mixed", "cell"] "_law_bag" (defScope s__law_bag) f cdv A outer s H E).nox.A.units + 1 < cLine := hu_of hr
  have hd := scBag.nd
  refine ⟨_, PSs.nox (pss_cons (ps_setLc (i := 1) (own := [("cell", 3)]) rfl hd rfl rfl (sw_true rfl rfl rfl (by decide +kernel)) (pi_list (pe_slice sl_list (pv 0) po_none (po_some pe_int))) (blkOk_by (by kernel_rfl)) (fun _ _ _ _ _ => pg_name (i := 3) hd rfl (.inl rfl)) (fun _ _ _ _ _ => pts_nil)
          (fun _ _ _ _ _ => pe_callB call_abs (by rfl) mAbs (by decide +kernel) (pa_cons (pv 3) pa_nil)))
    (pss_cons (ps_set (i := 2) hd rfl (.inl rfl) (pe_op op_add pe_int (pe_callB call_len_seq (by rfl) mLen PySem.boot_len (pa_cons (pv 1) pa_nil))))
    (pss_cons (DS.ps (T := bagT) (t := t_p2) (ds_for (dit_seq (dv 1)) (dg_name 3 hd) (dss_one (ds_set 2 hd (d_op do_mod (DE.rd (d_ty c_int (by rfl) mInt (by decide +kernel) (dar_cons (DE.rd (d_op do_add (DE.rd (d_op do_add (DE.rd (d_op do_mul (rv 2) (DE.rd (d_int)))) (DE.rd (d_op do_mod (DE.rd (d_ty c_int (by rfl) mInt (by decide +kernel) (dar_cons (rv 3) (dar_nil)))) (DE.rd (d_int)))))) (DE.rd (d_int)))) (dar_nil)))) (DE.rd (d_int)))))))
    (pss_one (ps_ret (pe_lst (pa_cons (pe_revA (pv 1)) (pa_cons pe_int (pa_cons (pv 2) pa_nil))))))))), ?_⟩
  subst e
  have line : (63 : Nat) < sizeLine := by decide
  refine ⟨.ref a, rfl, 63, rfl, a, _, rfl, hS, fun c nc => ?_⟩
  rw [cut63 ns]
  obtain ⟨xs, hxs⟩ : ∃ xs, xs = ns.take 63 := ⟨_, rfl⟩
  have hxl : xs.length ≤ 63 := by rw [hxs, List.length_take]; omega
  rw [← hxs]
  refine ⟨c, rfl, ⟨_, SqL.of upd_same⟩, fun D hD => ?_⟩
  have ncD : c ≠ D := fun z => by rw [← z, upd_same] at hD; cases hD
  have nD0 : H D = none := by rw [upd_ne ncD.symm] at hD; exact hD
  refine lc_list (xs := xs.map V.int) (fun i H3 => H3 c = some (.lst (xs.map V.int)) ∧ Same H H3 ∧ ∃ os : List Int, os.length = i ∧ i ≤ 63 ∧ (∀ o ∈ os, 0 ≤ o) ∧ H3 D = some (.lst (os.map V.int))) ?_ (fun i H3 _ z => SqL.of z.1) ?_ ?_
  · refine ⟨by rw [upd_ne ncD, upd_same], fun b o h => ?_, [], rfl, Nat.zero_le _, by simp, by rw [upd_same]; rfl⟩
    rw [upd_ne (ne_of_none h nD0), upd_ne (ne_of_none h nc)]; exact h
  · rintro i v H3 hv ⟨h1, h2, os, h3, h4, h6, h5⟩
    have hi : i < xs.length := by
      have := (List.getElem?_eq_some_iff.mp hv).1
      rwa [List.length_map] at this
    rw [List.getElem?_map, List.getElem?_eq_getElem hi] at hv
    cases hv
    generalize xs[i] = z
    refine ⟨rfl, ?_⟩
    unfold tYes
    dsimp only
    rw [if_pos rfl]
    refine ⟨.int z, rfl, z, rfl, ?_⟩
    refine ⟨_, h5, by rw [List.length_map]; omega, by rw [upd_ne ncD]; exact h1, fun b o h => ?_, os ++ [if z < 0 then -z else z], by rw [List.length_append, h3]; rfl, by omega, fun o ho => ?_, ?_⟩
    · rw [upd_ne (ne_of_none h nD0)]; exact h2 b o h
    · rcases List.mem_append.mp ho with q | q
      · exact h6 o q
      · rw [List.mem_singleton.mp q]
        split <;> omega
    · rw [upd_same, List.map_append]; rfl
  rintro H3 ⟨h1, h2, os, h3, h4, h6, h5⟩
  rw [List.length_map] at h3
  obtain ⟨m0, hm0⟩ : ∃ m0 : Int, m0 = 19593 + ((os.map V.int).length : Int) := ⟨_, rfl⟩
  have hm1 : 0 ≤ m0 ∧ m0 < 2 ^ 32 := by
    rw [hm0, List.length_map]
    omega
  refine ⟨.ref D, rfl, D, _, rfl, .inl (SqL.of h5), 19593, _, rfl, rfl, ?_⟩
  show tSeq _ _ _ [_, _, some (V.int (19593 + ((os.map V.int).length : Int))), _] H3
  rw [← hm0]
  refine ⟨⟨H3, H3, none⟩, [.nil, .val (.list (os.map .int)), .val (.int m0), .nil], none, H3, { nx := I2 os, rt := fun _ => False }, env_plain rfl (fun i s e => ?_) (fun i ds e => ?_), law_p2 os m0 hm1, fun ρ1 dk1 HS1 H4 σ1 hI E1 => ?_, fun _ _ _ _ _ z => z.elim, fun _ _ _ _ _ z => z.elim, fun _ _ _ _ _ z => z.elim⟩
  · match i, e with
    | 0, e => cases e; exact ⟨_, rfl, trivial⟩
    | 1, e => cases e; exact ⟨_, rfl, _, rfl, .lst h5 .ofInts⟩
    | 2, e => cases e; exact ⟨_, rfl, _, rfl, .int _⟩
    | 3, e => cases e; exact ⟨_, rfl, trivial⟩
  · match i, e with
    | 0, e => cases e
    | 1, e => cases e
    | 2, e => cases e
    | 3, e => cases e
  · obtain ⟨m, x, e, hm2, hm3⟩ := id hI
    have s4 : Same H H4 := fun b o h => E1.fin.fr b o (h2 b o h) (fun z => z.elim)
    obtain ⟨v1, e1, r1⟩ := E1.slots 1 (.val (.list (os.map .int))) (by rw [e]; rfl)
    obtain ⟨v1', rfl, r1⟩ := r1
    obtain ⟨v2, e2, r2⟩ := E1.slots 2 (.val (.int m)) (by rw [e]; rfl)
    obtain ⟨v2', rfl, r2⟩ := r2
    cases r2
    cases r1 with
    | lst hb qb =>
    have exs := qb.intsV
    subst exs
    have hno4 : ∀ {b : Addr}, H4 b = none → H b = none := fun {b} h => by
      cases q : H b with
      | none => rfl
      | some o => rw [s4 b o q] at h; cases h
    refine ⟨_, e1, _, _, rfl, .inl ⟨SqL.of (E1.wd.sub _ _ hb), fun g ng => ?_⟩⟩
    refine ⟨.int m, e2, (show (3 : Nat) ≤ sizeLine by decide), fun p np => ?_⟩
    have ngp : p ≠ g := fun z => by rw [z, upd_same] at np; cases np
    have np4 : H4 p = none := by rwa [upd_ne ngp] at np
    refine kk p g _ (fun b o h => ?_) (hno4 np4) (hno4 ng) ngp ⟨os.reverse, 0, m, upd_same, ?_, by rw [List.length_reverse]; omega, Int.le_refl 0, hm2, hm3⟩
    · rw [upd_ne (ne_of_none (s4 b o h) np4), upd_ne (ne_of_none (s4 b o h) ng)]; exact s4 b o h
    · rw [upd_ne ngp.symm, upd_same, List.map_reverse]

end
set_option maxHeartbeats 4000000 in
theorem all_mk {l : PySem.W.OpenLaw} {w : World} {K : PySem.W.Frag} {h : Heap} {mg : Str → Option Value} {fa : Addr} (X : K.In h) (G : h.Ns mainGlobals mg) (hfa : mg "law" = some (.ref fa))
    {f_is_integer : Addr} {oc_is_integer kV_is_integer dc_is_integer pm_is_integer cd_is_integer ct_is_integer : Value} {od_is_integer an_is_integer : Option Addr} {sl_is_integer : Array (Option Value)}
    {f_item_fault : Addr} {oc_item_fault kV_item_fault dc_item_fault pm_item_fault cd_item_fault ct_item_fault : Value} {od_item_fault an_item_fault : Option Addr} {sl_item_fault : Array (Option Value)}
    {f_growth_error : Addr} {oc_growth_error kV_growth_error dc_growth_error pm_growth_error cd_growth_error ct_growth_error : Value} {od_growth_error an_growth_error : Option Addr} {sl_growth_error : Array (Option Value)}
    {f_lots_of_growth : Addr} {oc_lots_of_growth kV_lots_of_growth dc_lots_of_growth pm_lots_of_growth cd_lots_of_growth ct_lots_of_growth : Value} {od_lots_of_growth an_lots_of_growth : Option Addr} {sl_lots_of_growth : Array (Option Value)}
    {f_growth_of_lots : Addr} {oc_growth_of_lots kV_growth_of_lots dc_growth_of_lots pm_growth_of_lots cd_growth_of_lots ct_growth_of_lots : Value} {od_growth_of_lots an_growth_of_lots : Option Addr} {sl_growth_of_lots : Array (Option Value)}
    {f_endings_table : Addr} {oc_endings_table kV_endings_table dc_endings_table pm_endings_table cd_endings_table ct_endings_table : Value} {od_endings_table an_endings_table : Option Addr} {sl_endings_table : Array (Option Value)}
    {f_endings_number : Addr} {oc_endings_number kV_endings_number dc_endings_number pm_endings_number cd_endings_number ct_endings_number : Value} {od_endings_number an_endings_number : Option Addr} {sl_endings_number : Array (Option Value)}
    {f_partings_number : Addr} {oc_partings_number kV_partings_number dc_partings_number pm_partings_number cd_partings_number ct_partings_number : Value} {od_partings_number an_partings_number : Option Addr} {sl_partings_number : Array (Option Value)}
    {f__law_bag : Addr} {oc__law_bag kV__law_bag dc__law_bag pm__law_bag cd__law_bag ct__law_bag : Value} {od__law_bag an__law_bag : Option Addr} {sl__law_bag : Array (Option Value)}
    {f__law_draw : Addr} {oc__law_draw kV__law_draw dc__law_draw pm__law_draw cd__law_draw ct__law_draw : Value} {od__law_draw an__law_draw : Option Addr} {sl__law_draw : Array (Option Value)}
    {f__law_pick : Addr} {oc__law_pick kV__law_pick dc__law_pick pm__law_pick cd__law_pick ct__law_pick : Value} {od__law_pick an__law_pick : Option Addr} {sl__law_pick : Array (Option Value)}
    {f__law_is_whole : Addr} {oc__law_is_whole kV__law_is_whole dc__law_is_whole pm__law_is_whole cd__law_is_whole ct__law_is_whole : Value} {od__law_is_whole an__law_is_whole : Option Addr} {sl__law_is_whole : Array (Option Value)}
    {f__law_odd : Addr} {oc__law_odd kV__law_odd dc__law_odd pm__law_odd cd__law_odd ct__law_odd : Value} {od__law_odd an__law_odd : Option Addr} {sl__law_odd : Array (Option Value)}
    {f__law_mixed : Addr} {oc__law_mixed kV__law_mixed dc__law_mixed pm__law_mixed cd__law_mixed ct__law_mixed : Value} {od__law_mixed an__law_mixed : Option Addr} {sl__law_mixed : Array (Option Value)}
    {f__law_with : Addr} {oc__law_with kV__law_with dc__law_with pm__law_with cd__law_with ct__law_with : Value} {od__law_with an__law_with : Option Addr} {sl__law_with : Array (Option Value)}
    {f__law_growth : Addr} {oc__law_growth kV__law_growth dc__law_growth pm__law_growth cd__law_growth ct__law_growth : Value} {od__law_growth an__law_growth : Option Addr} {sl__law_growth : Array (Option Value)}
    {f__law_lots : Addr} {oc__law_lots kV__law_lots dc__law_lots pm__law_lots cd__law_lots ct__law_lots : Value} {od__law_lots an__law_lots : Option Addr} {sl__law_lots : Array (Option Value)}
    {f__law_due : Addr} {oc__law_due kV__law_due dc__law_due pm__law_due cd__law_due ct__law_due : Value} {od__law_due an__law_due : Option Addr} {sl__law_due : Array (Option Value)}
    {f_law : Addr} {oc_law kV_law dc_law pm_law cd_law ct_law : Value} {od_law an_law : Option Addr} {sl_law : Array (Option Value)}
    (a_is_integer : PySem.W.nsIn K mainGlobals "is_integer" = some (some (.ref f_is_integer)))
    (l_is_integer : K.lookup f_is_integer = some ⟨oc_is_integer, od_is_integer, .func (PySem.W.fnOf "is_integer" "is_integer" (defArgs s_is_integer) (defBody s_is_integer) (defScope s_is_integer) .none kV_is_integer dc_is_integer pm_is_integer an_is_integer cd_is_integer ct_is_integer), sl_is_integer⟩)
    (c_is_integer : PySem.W.codeIn K cd_is_integer "is_integer" = true)
    (k_is_integer : PySem.W.keepIn K (.ref f_is_integer) = true)
    (a_item_fault : PySem.W.nsIn K mainGlobals "item_fault" = some (some (.ref f_item_fault)))
    (l_item_fault : K.lookup f_item_fault = some ⟨oc_item_fault, od_item_fault, .func (PySem.W.fnOf "item_fault" "item_fault" (defArgs s_item_fault) (defBody s_item_fault) (defScope s_item_fault) .none kV_item_fault dc_item_fault pm_item_fault an_item_fault cd_item_fault ct_item_fault), sl_item_fault⟩)
    (c_item_fault : PySem.W.codeIn K cd_item_fault "item_fault" = true)
    (k_item_fault : PySem.W.keepIn K (.ref f_item_fault) = true)
    (a_growth_error : PySem.W.nsIn K mainGlobals "growth_error" = some (some (.ref f_growth_error)))
    (l_growth_error : K.lookup f_growth_error = some ⟨oc_growth_error, od_growth_error, .func (PySem.W.fnOf "growth_error" "growth_error" (defArgs s_growth_error) (defBody s_growth_error) (defScope s_growth_error) .none kV_growth_error dc_growth_error pm_growth_error an_growth_error cd_growth_error ct_growth_error), sl_growth_error⟩)
    (c_growth_error : PySem.W.codeIn K cd_growth_error "growth_error" = true)
    (k_growth_error : PySem.W.keepIn K (.ref f_growth_error) = true)
    (a_lots_of_growth : PySem.W.nsIn K mainGlobals "lots_of_growth" = some (some (.ref f_lots_of_growth)))
    (l_lots_of_growth : K.lookup f_lots_of_growth = some ⟨oc_lots_of_growth, od_lots_of_growth, .func (PySem.W.fnOf "lots_of_growth" "lots_of_growth" (defArgs s_lots_of_growth) (defBody s_lots_of_growth) (defScope s_lots_of_growth) .none kV_lots_of_growth dc_lots_of_growth pm_lots_of_growth an_lots_of_growth cd_lots_of_growth ct_lots_of_growth), sl_lots_of_growth⟩)
    (c_lots_of_growth : PySem.W.codeIn K cd_lots_of_growth "lots_of_growth" = true)
    (k_lots_of_growth : PySem.W.keepIn K (.ref f_lots_of_growth) = true)
    (a_growth_of_lots : PySem.W.nsIn K mainGlobals "growth_of_lots" = some (some (.ref f_growth_of_lots)))
    (l_growth_of_lots : K.lookup f_growth_of_lots = some ⟨oc_growth_of_lots, od_growth_of_lots, .func (PySem.W.fnOf "growth_of_lots" "growth_of_lots" (defArgs s_growth_of_lots) (defBody s_growth_of_lots) (defScope s_growth_of_lots) .none kV_growth_of_lots dc_growth_of_lots pm_growth_of_lots an_growth_of_lots cd_growth_of_lots ct_growth_of_lots), sl_growth_of_lots⟩)
    (c_growth_of_lots : PySem.W.codeIn K cd_growth_of_lots "growth_of_lots" = true)
    (k_growth_of_lots : PySem.W.keepIn K (.ref f_growth_of_lots) = true)
    (a_endings_table : PySem.W.nsIn K mainGlobals "endings_table" = some (some (.ref f_endings_table)))
    (l_endings_table : K.lookup f_endings_table = some ⟨oc_endings_table, od_endings_table, .func (PySem.W.fnOf "endings_table" "endings_table" (defArgs s_endings_table) (defBody s_endings_table) (defScope s_endings_table) .none kV_endings_table dc_endings_table pm_endings_table an_endings_table cd_endings_table ct_endings_table), sl_endings_table⟩)
    (c_endings_table : PySem.W.codeIn K cd_endings_table "endings_table" = true)
    (k_endings_table : PySem.W.keepIn K (.ref f_endings_table) = true)
    (a_endings_number : PySem.W.nsIn K mainGlobals "endings_number" = some (some (.ref f_endings_number)))
    (l_endings_number : K.lookup f_endings_number = some ⟨oc_endings_number, od_endings_number, .func (PySem.W.fnOf "endings_number" "endings_number" (defArgs s_endings_number) (defBody s_endings_number) (defScope s_endings_number) .none kV_endings_number dc_endings_number pm_endings_number an_endings_number cd_endings_number ct_endings_number), sl_endings_number⟩)
    (c_endings_number : PySem.W.codeIn K cd_endings_number "endings_number" = true)
    (k_endings_number : PySem.W.keepIn K (.ref f_endings_number) = true)
    (a_partings_number : PySem.W.nsIn K mainGlobals "partings_number" = some (some (.ref f_partings_number)))
    (l_partings_number : K.lookup f_partings_number = some ⟨oc_partings_number, od_partings_number, .func (PySem.W.fnOf "partings_number" "partings_number" (defArgs s_partings_number) (defBody s_partings_number) (defScope s_partings_number) .none kV_partings_number dc_partings_number pm_partings_number an_partings_number cd_partings_number ct_partings_number), sl_partings_number⟩)
    (c_partings_number : PySem.W.codeIn K cd_partings_number "partings_number" = true)
    (k_partings_number : PySem.W.keepIn K (.ref f_partings_number) = true)
    (a__law_bag : PySem.W.nsIn K mainGlobals "_law_bag" = some (some (.ref f__law_bag)))
    (l__law_bag : K.lookup f__law_bag = some ⟨oc__law_bag, od__law_bag, .func (PySem.W.fnOf "_law_bag" "_law_bag" (defArgs s__law_bag) (defBody s__law_bag) (defScope s__law_bag) .none kV__law_bag dc__law_bag pm__law_bag an__law_bag cd__law_bag ct__law_bag), sl__law_bag⟩)
    (c__law_bag : PySem.W.codeIn K cd__law_bag "_law_bag" = true)
    (k__law_bag : PySem.W.keepIn K (.ref f__law_bag) = true)
    (a__law_draw : PySem.W.nsIn K mainGlobals "_law_draw" = some (some (.ref f__law_draw)))
    (l__law_draw : K.lookup f__law_draw = some ⟨oc__law_draw, od__law_draw, .func (PySem.W.fnOf "_law_draw" "_law_draw" (defArgs s__law_draw) (defBody s__law_draw) (defScope s__law_draw) .none kV__law_draw dc__law_draw pm__law_draw an__law_draw cd__law_draw ct__law_draw), sl__law_draw⟩)
    (c__law_draw : PySem.W.codeIn K cd__law_draw "_law_draw" = true)
    (k__law_draw : PySem.W.keepIn K (.ref f__law_draw) = true)
    (a__law_pick : PySem.W.nsIn K mainGlobals "_law_pick" = some (some (.ref f__law_pick)))
    (l__law_pick : K.lookup f__law_pick = some ⟨oc__law_pick, od__law_pick, .func (PySem.W.fnOf "_law_pick" "_law_pick" (defArgs s__law_pick) (defBody s__law_pick) (defScope s__law_pick) .none kV__law_pick dc__law_pick pm__law_pick an__law_pick cd__law_pick ct__law_pick), sl__law_pick⟩)
    (c__law_pick : PySem.W.codeIn K cd__law_pick "_law_pick" = true)
    (k__law_pick : PySem.W.keepIn K (.ref f__law_pick) = true)
    (a__law_is_whole : PySem.W.nsIn K mainGlobals "_law_is_whole" = some (some (.ref f__law_is_whole)))
    (l__law_is_whole : K.lookup f__law_is_whole = some ⟨oc__law_is_whole, od__law_is_whole, .func (PySem.W.fnOf "_law_is_whole" "_law_is_whole" (defArgs s__law_is_whole) (defBody s__law_is_whole) (defScope s__law_is_whole) .none kV__law_is_whole dc__law_is_whole pm__law_is_whole an__law_is_whole cd__law_is_whole ct__law_is_whole), sl__law_is_whole⟩)
    (c__law_is_whole : PySem.W.codeIn K cd__law_is_whole "_law_is_whole" = true)
    (k__law_is_whole : PySem.W.keepIn K (.ref f__law_is_whole) = true)
    (a__law_odd : PySem.W.nsIn K mainGlobals "_law_odd" = some (some (.ref f__law_odd)))
    (l__law_odd : K.lookup f__law_odd = some ⟨oc__law_odd, od__law_odd, .func (PySem.W.fnOf "_law_odd" "_law_odd" (defArgs s__law_odd) (defBody s__law_odd) (defScope s__law_odd) .none kV__law_odd dc__law_odd pm__law_odd an__law_odd cd__law_odd ct__law_odd), sl__law_odd⟩)
    (c__law_odd : PySem.W.codeIn K cd__law_odd "_law_odd" = true)
    (k__law_odd : PySem.W.keepIn K (.ref f__law_odd) = true)
    (a__law_mixed : PySem.W.nsIn K mainGlobals "_law_mixed" = some (some (.ref f__law_mixed)))
    (l__law_mixed : K.lookup f__law_mixed = some ⟨oc__law_mixed, od__law_mixed, .func (PySem.W.fnOf "_law_mixed" "_law_mixed" (defArgs s__law_mixed) (defBody s__law_mixed) (defScope s__law_mixed) .none kV__law_mixed dc__law_mixed pm__law_mixed an__law_mixed cd__law_mixed ct__law_mixed), sl__law_mixed⟩)
    (c__law_mixed : PySem.W.codeIn K cd__law_mixed "_law_mixed" = true)
    (k__law_mixed : PySem.W.keepIn K (.ref f__law_mixed) = true)
    (a__law_with : PySem.W.nsIn K mainGlobals "_law_with" = some (some (.ref f__law_with)))
    (l__law_with : K.lookup f__law_with = some ⟨oc__law_with, od__law_with, .func (PySem.W.fnOf "_law_with" "_law_with" (defArgs s__law_with) (defBody s__law_with) (defScope s__law_with) .none kV__law_with dc__law_with pm__law_with an__law_with cd__law_with ct__law_with), sl__law_with⟩)
    (c__law_with : PySem.W.codeIn K cd__law_with "_law_with" = true)
    (k__law_with : PySem.W.keepIn K (.ref f__law_with) = true)
    (a__law_growth : PySem.W.nsIn K mainGlobals "_law_growth" = some (some (.ref f__law_growth)))
    (l__law_growth : K.lookup f__law_growth = some ⟨oc__law_growth, od__law_growth, .func (PySem.W.fnOf "_law_growth" "_law_growth" (defArgs s__law_growth) (defBody s__law_growth) (defScope s__law_growth) .none kV__law_growth dc__law_growth pm__law_growth an__law_growth cd__law_growth ct__law_growth), sl__law_growth⟩)
    (c__law_growth : PySem.W.codeIn K cd__law_growth "_law_growth" = true)
    (k__law_growth : PySem.W.keepIn K (.ref f__law_growth) = true)
    (a__law_lots : PySem.W.nsIn K mainGlobals "_law_lots" = some (some (.ref f__law_lots)))
    (l__law_lots : K.lookup f__law_lots = some ⟨oc__law_lots, od__law_lots, .func (PySem.W.fnOf "_law_lots" "_law_lots" (defArgs s__law_lots) (defBody s__law_lots) (defScope s__law_lots) .none kV__law_lots dc__law_lots pm__law_lots an__law_lots cd__law_lots ct__law_lots), sl__law_lots⟩)
    (c__law_lots : PySem.W.codeIn K cd__law_lots "_law_lots" = true)
    (k__law_lots : PySem.W.keepIn K (.ref f__law_lots) = true)
    (a__law_due : PySem.W.nsIn K mainGlobals "_law_due" = some (some (.ref f__law_due)))
    (l__law_due : K.lookup f__law_due = some ⟨oc__law_due, od__law_due, .func (PySem.W.fnOf "_law_due" "_law_due" (defArgs s__law_due) (defBody s__law_due) (defScope s__law_due) .none kV__law_due dc__law_due pm__law_due an__law_due cd__law_due ct__law_due), sl__law_due⟩)
    (c__law_due : PySem.W.codeIn K cd__law_due "_law_due" = true)
    (k__law_due : PySem.W.keepIn K (.ref f__law_due) = true)
    (a_law : PySem.W.nsIn K mainGlobals "law" = some (some (.ref f_law)))
    (l_law : K.lookup f_law = some ⟨oc_law, od_law, .func (PySem.W.fnOf "law" "law" (defArgs s_law) (defBody s_law) (defScope s_law) .none kV_law dc_law pm_law an_law cd_law ct_law), sl_law⟩)
    (c_law : PySem.W.codeIn K cd_law "law" = true)
    (k_law : PySem.W.keepIn K (.ref f_law) = true)
    (z_isinstance : PySem.W.nsIn K mainGlobals "isinstance" = some none)
    (z_int : PySem.W.nsIn K mainGlobals "int" = some none)
    (z_bool : PySem.W.nsIn K mainGlobals "bool" = some none)
    (z_enumerate : PySem.W.nsIn K mainGlobals "enumerate" = some none)
    (z_max : PySem.W.nsIn K mainGlobals "max" = some none)
    (z_tuple : PySem.W.nsIn K mainGlobals "tuple" = some none)
    (z_len : PySem.W.nsIn K mainGlobals "len" = some none)
    (z_all : PySem.W.nsIn K mainGlobals "all" = some none)
    (z_range : PySem.W.nsIn K mainGlobals "range" = some none)
    (z_list : PySem.W.nsIn K mainGlobals "list" = some none)
    (z_repr : PySem.W.nsIn K mainGlobals "repr" = some none)
    (z_abs : PySem.W.nsIn K mainGlobals "abs" = some none)
    : ∃ fd : FuncData, (∀ (s : Shared) (u : Value), BindsTo s fd ⟨[u], []⟩ [("script", u)]) ∧ ∀ base : Heap, K.In base → base.Ns mainGlobals mg → FnG l.prog w K mg base CX0 4 fa fd ["script"] (spLaw K) := by
  have e := hfa.symm.trans (PySem.W.mg_of X G a_law)
  cases e
  have F_is_integer := fun_mk (st := s_is_integer) l_is_integer c_is_integer k_is_integer
  have F_item_fault := fun_mk (st := s_item_fault) l_item_fault c_item_fault k_item_fault
  have F_growth_error := fun_mk (st := s_growth_error) l_growth_error c_growth_error k_growth_error
  have F_lots_of_growth := fun_mk (st := s_lots_of_growth) l_lots_of_growth c_lots_of_growth k_lots_of_growth
  have F_growth_of_lots := fun_mk (st := s_growth_of_lots) l_growth_of_lots c_growth_of_lots k_growth_of_lots
  have F_endings_table := fun_mk (st := s_endings_table) l_endings_table c_endings_table k_endings_table
  have F_endings_number := fun_mk (st := s_endings_number) l_endings_number c_endings_number k_endings_number
  have F_partings_number := fun_mk (st := s_partings_number) l_partings_number c_partings_number k_partings_number
  have F__law_bag := fun_mk (st := s__law_bag) l__law_bag c__law_bag k__law_bag
  have F__law_draw := fun_mk (st := s__law_draw) l__law_draw c__law_draw k__law_draw
  have F__law_pick := fun_mk (st := s__law_pick) l__law_pick c__law_pick k__law_pick
  have F__law_is_whole := fun_mk (st := s__law_is_whole) l__law_is_whole c__law_is_whole k__law_is_whole
  have F__law_odd := fun_mk (st := s__law_odd) l__law_odd c__law_odd k__law_odd
  have F__law_mixed := fun_mk (st := s__law_mixed) l__law_mixed c__law_mixed k__law_mixed
  have F__law_with := fun_mk (st := s__law_with) l__law_with c__law_with k__law_with
  have F__law_growth := fun_mk (st := s__law_growth) l__law_growth c__law_growth k__law_growth
  have F__law_lots := fun_mk (st := s__law_lots) l__law_lots c__law_lots k__law_lots
  have F__law_due := fun_mk (st := s__law_due) l__law_due c__law_due k__law_due
  have F_law := fun_mk (st := s_law) l_law c_law k_law
  refine ⟨PySem.W.fnOf "law" "law" (defArgs s_law) (defBody s_law) (defScope s_law) .none kV_law dc_law pm_law an_law cd_law ct_law, fun s v => .of_eq rfl, fun base _ _ => ?_⟩
  have C_is_integer := ok_is_integer (Pg := l.prog) (w := w) (base := base) F_is_integer (PySem.W.mg_of X G a_is_integer) (PySem.W.mg_none_of X G z_isinstance) (PySem.W.mg_none_of X G z_int) (PySem.W.mg_none_of X G z_bool)
  have C_item_fault := ok_item_fault (Pg := l.prog) (w := w) (base := base) F_item_fault (PySem.W.mg_of X G a_item_fault) (PySem.W.mg_none_of X G z_enumerate) (PySem.W.mg_none_of X G z_max)
  have C_growth_error := ok_growth_error (Pg := l.prog) (w := w) (base := base) F_growth_error (PySem.W.mg_of X G a_growth_error) C_is_integer C_item_fault (PySem.W.mg_none_of X G z_isinstance) (PySem.W.mg_none_of X G z_tuple) (PySem.W.mg_none_of X G z_len) (PySem.W.mg_none_of X G z_all)
  have C_lots_of_growth := ok_lots_of_growth (Pg := l.prog) (w := w) (base := base) F_lots_of_growth (PySem.W.mg_of X G a_lots_of_growth) (PySem.W.mg_none_of X G z_range) (PySem.W.mg_none_of X G z_max) (PySem.W.mg_none_of X G z_enumerate) (PySem.W.mg_none_of X G z_tuple)
  have C_growth_of_lots := ok_growth_of_lots (Pg := l.prog) (w := w) (base := base) F_growth_of_lots (PySem.W.mg_of X G a_growth_of_lots) (PySem.W.mg_none_of X G z_enumerate) (PySem.W.mg_none_of X G z_tuple) (PySem.W.mg_none_of X G z_range) (PySem.W.mg_none_of X G z_len)
  have C_endings_table := ok_endings_table (Pg := l.prog) (w := w) (base := base) F_endings_table (PySem.W.mg_of X G a_endings_table) (PySem.W.mg_none_of X G z_range) (PySem.W.mg_none_of X G z_len)
  have C_endings_number := ok_endings_number (Pg := l.prog) (w := w) (base := base) F_endings_number (PySem.W.mg_of X G a_endings_number) C_endings_table
  have C_partings_number := ok_partings_number (Pg := l.prog) (w := w) (base := base) F_partings_number (PySem.W.mg_of X G a_partings_number) C_endings_number
  have C_mk : CalMk l.prog w K mg base srcT 1 "_law_bag" := ⟨_, _, ok_mk F__law_bag (PySem.W.mg_none_of X G z_int) (PySem.W.mg_none_of X G z_len) (PySem.W.mg_none_of X G z_abs), PySem.W.mg_of X G a__law_bag, k__law_bag, F__law_bag.binds fun _ _ _ _ _ _ us hl => match us, hl with | [_], _ => rfl⟩
  have C__law_draw : Cal l.prog w K mg base srcT 1 "_law_draw" s__law_draw ["bag", "below"] sp__law_draw := cal_of F__law_draw (PySem.W.mg_of X G a__law_draw) (fun _ _ _ _ _ _ us hl => match us, hl with | [_, _], _ => rfl) (ok_draw F__law_draw (PySem.W.mg_none_of X G z_int))
  have C__law_pick := ok__law_pick (Pg := l.prog) (w := w) (base := base) F__law_pick (PySem.W.mg_of X G a__law_pick) C__law_draw (PySem.W.mg_none_of X G z_len)
  have C__law_is_whole := ok__law_is_whole (Pg := l.prog) (w := w) (base := base) F__law_is_whole (PySem.W.mg_of X G a__law_is_whole) (PySem.W.mg_none_of X G z_isinstance) (PySem.W.mg_none_of X G z_int) (PySem.W.mg_none_of X G z_bool)
  have C__law_odd := ok__law_odd (Pg := l.prog) (w := w) (base := base) F__law_odd (PySem.W.mg_of X G a__law_odd) C__law_pick
  have C__law_mixed := ok__law_mixed (Pg := l.prog) (w := w) (base := base) F__law_mixed (PySem.W.mg_of X G a__law_mixed) C__law_draw (PySem.W.mg_none_of X G z_list) (PySem.W.mg_none_of X G z_len)
  have C__law_with := ok__law_with (Pg := l.prog) (w := w) (base := base) F__law_with (PySem.W.mg_of X G a__law_with)
  have C__law_growth := ok__law_growth (Pg := l.prog) (w := w) (base := base) F__law_growth (PySem.W.mg_of X G a__law_growth) C__law_pick C__law_draw (PySem.W.mg_none_of X G z_range) (PySem.W.mg_none_of X G z_max)
  have C__law_lots := ok__law_lots (Pg := l.prog) (w := w) (base := base) F__law_lots (PySem.W.mg_of X G a__law_lots) (PySem.W.mg_none_of X G z_max) (PySem.W.mg_none_of X G z_enumerate) (PySem.W.mg_none_of X G z_tuple)
  have C__law_due := ok__law_due (Pg := l.prog) (w := w) (base := base) F__law_due (PySem.W.mg_of X G a__law_due) C__law_is_whole (PySem.W.mg_none_of X G z_isinstance) (PySem.W.mg_none_of X G z_tuple) (PySem.W.mg_none_of X G z_len) (PySem.W.mg_none_of X G z_all) (PySem.W.mg_none_of X G z_enumerate) (PySem.W.mg_none_of X G z_max)
  exact ok_law F_law C_mk C__law_draw C__law_pick C__law_growth C__law_lots C_lots_of_growth C_growth_of_lots C__law_odd C__law_with C__law_mixed C__law_due C_growth_error C_endings_number C_partings_number (PySem.W.mg_none_of X G z_range) (PySem.W.mg_none_of X G z_repr) (PySem.W.mg_none_of X G z_list) (PySem.W.mg_none_of X G z_tuple) (PySem.W.mg_none_of X G z_max) (PySem.W.mg_none_of X G z_len)
end K36
open PySem PySem.W PyProof.Rows
set_option maxHeartbeats 0 in
theorem PySem.Challenge.cw_nearlists_k36_whole_growths_holds : PySem.Challenge.rw_nearlists_k36_whole_growths.Holds := by
  w_on; o_law; k_head; (case hw => w_witness2)
  k_fill
  refine DL.walk_g (l := PySem.Challenge.rw_nearlists_k36_whole_growths) (k := 4) rfl rfl ⟨rfl, by decide, by decide⟩ (fun w h Y => PySem.W.kIn_of Y) ?F
  case F =>
    intro w mg fa h KX G hmg
    refine' K36.all_mk KX G hmg ?q0 ?q1 ?q2 ?q3 ?q4 ?q5 ?q6 ?q7 ?q8 ?q9 ?q10 ?q11 ?q12 ?q13 ?q14 ?q15 ?q16 ?q17 ?q18 ?q19 ?q20 ?q21 ?q22 ?q23 ?q24 ?q25 ?q26 ?q27 ?q28 ?q29 ?q30 ?q31 ?q32 ?q33 ?q34 ?q35 ?q36 ?q37 ?q38 ?q39 ?q40 ?q41 ?q42 ?q43 ?q44 ?q45 ?q46 ?q47 ?q48 ?q49 ?q50 ?q51 ?q52 ?q53 ?q54 ?q55 ?q56 ?q57 ?q58 ?q59 ?q60 ?q61 ?q62 ?q63 ?q64 ?q65 ?q66 ?q67 ?q68 ?q69 ?q70 ?q71 ?q72 ?q73 ?q74 ?q75 ?q76 ?q77 ?q78 ?q79 ?q80 ?q81 ?q82 ?q83 ?q84 ?q85 ?q86 ?q87
    (case q0 => k_is)
    (case q1 => k_is)
    (case q2 => k_is)
    (case q3 => k_is)
    (case q4 => k_is)
    (case q5 => k_is)
    (case q6 => k_is)
    (case q7 => k_is)
    (case q8 => k_is)
    (case q9 => k_is)
    (case q10 => k_is)
    (case q11 => k_is)
    (case q12 => k_is)
    (case q13 => k_is)
    (case q14 => k_is)
    (case q15 => k_is)
    (case q16 => k_is)
    (case q17 => k_is)
    (case q18 => k_is)
    (case q19 => k_is)
    (case q20 => k_is)
    (case q21 => k_is)
    (case q22 => k_is)
    (case q23 => k_is)
    (case q24 => k_is)
    (case q25 => k_is)
    (case q26 => k_is)
    (case q27 => k_is)
    (case q28 => k_is)
    (case q29 => k_is)
    (case q30 => k_is)
    (case q31 => k_is)
    (case q32 => k_is)
    (case q33 => k_is)
    (case q34 => k_is)
    (case q35 => k_is)
    (case q36 => k_is)
    (case q37 => k_is)
    (case q38 => k_is)
    (case q39 => k_is)
    (case q40 => k_is)
    (case q41 => k_is)
    (case q42 => k_is)
    (case q43 => k_is)
    (case q44 => k_is)
    (case q45 => k_is)
    (case q46 => k_is)
    (case q47 => k_is)
    (case q48 => k_is)
    (case q49 => k_is)
    (case q50 => k_is)
    (case q51 => k_is)
    (case q52 => k_is)
    (case q53 => k_is)
    (case q54 => k_is)
    (case q55 => k_is)
    (case q56 => k_is)
    (case q57 => k_is)
    (case q58 => k_is)
    (case q59 => k_is)
    (case q60 => k_is)
    (case q61 => k_is)
    (case q62 => k_is)
    (case q63 => k_is)
    (case q64 => k_is)
    (case q65 => k_is)
    (case q66 => k_is)
    (case q67 => k_is)
    (case q68 => k_is)
    (case q69 => k_is)
    (case q70 => k_is)
    (case q71 => k_is)
    (case q72 => k_is)
    (case q73 => k_is)
    (case q74 => k_is)
    (case q75 => k_is)
    (case q76 => k_is)
    (case q77 => k_is)
    (case q78 => k_is)
    (case q79 => k_is)
    (case q80 => k_is)
    (case q81 => k_is)
    (case q82 => k_is)
    (case q83 => k_is)
    (case q84 => k_is)
    (case q85 => k_is)
    (case q86 => k_is)
    (case q87 => k_is)
