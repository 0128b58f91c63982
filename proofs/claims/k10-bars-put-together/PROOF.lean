import PyProof.Rows.All
import Wide.All
import OpenK.AllK
import Wide.FinOn
import HandS.ForMost
import HandS.Exc
import HandS.ExcInit
import HandS.TupAny
import HandS.Wide
import HandS.Style
import HandS.Flow
import HandS.Deep
import HandS.IsInst
import HandS.Conv
import HandS.SortInts
import HandS.SortRule
import KE.KTupSum
import KE.DataMinMax
import HandS.CallSlots
import HandS.ExcOwn
import HandS.WordsExc
import HandS.Walk
import HandS.DictComp
import PyProof.DictUpdate
import HandS.Star
import HandS.CallLocal
import HandS.TupLe
import HandS.SortOrd
import HandS.NamedTupSort
import HandS.HeadHook2
import HandS.HeadNt
import HandS.EndBits
import HandS.HeadEnd
import PySem.Challenge.RW_ringbars_k10_bars_put_together
import KE.KStateDown
import Lean
import HandS.Head0
import HandS.Head1
import HandS.Head2
import HandS.HeadHook1
set_option Elab.async false
set_option linter.all false
set_option maxRecDepth 100000
set_option maxHeartbeats 4000000
/-! DV: a layer of data over the hand layer. -/
namespace DV
open PySem L2

/-- data: what a value is, the heap read through -/
inductive D where
  | non | bl (b : Bool) | int (i : Int) | str (s : Str) | lst (l : List D) | tup (l : List D)
  | dic (l : List (Key × D)) | obj (C : Addr) (fs : List (Str × D)) | glb (a : Addr) | ty (n : String) | scr (ns : List Int)
instance : Inhabited D := ⟨.non⟩

/-- more and more of the heap -/
def Ex (H H' : Hp) : Prop := ∀ a o, H a = some o → H' a = some o
theorem Ex.refl (H : Hp) : Ex H H := fun _ _ h => h
theorem Ex.trans {H H1 H2 : Hp} (a : Ex H H1) (b : Ex H1 H2) : Ex H H2 := fun x o h => b x o (a x o h)
theorem Ex.free {H H' : Hp} (e : Ex H H') {a : Addr} (h : H' a = none) : H a = none := by
  cases q : H a with
  | none => rfl
  | some o => rw [e a o q] at h; cases h
theorem Ex.new {H : Hp} {p : Addr} {o : HO} (h : H p = none) : Ex H (upd H p o) := fun a u e => by
  rw [upd_ne (ne_of_none e h)]; exact e
theorem Ex.up {H H' : Hp} {p : Addr} {o : HO} (e : Ex H H') : Ex (upd H p o) (upd H' p o) := fun a u h => by
  by_cases c : a = p
  · subst c; rw [upd_same] at h ⊢; exact h
  · rw [upd_ne c] at h ⊢; exact e a u h
theorem Ex.mut {H H' : Hp} {p : Addr} {o : HO} (e : Ex H H') (h : H p = none) : Ex H (upd H' p o) := fun a u ha => by
  rw [upd_ne (ne_of_none ha h)]; exact e a u ha
theorem ex_rd {H H' : Hp} {a : Addr} {u : HO} (e : Ex H H') (h : Rd H a u) : Rd H' a u := by
  rcases h with h | ⟨o, h⟩
  · exact .inl (e a _ h)
  · exact .inr ⟨o, e a _ h⟩
theorem ex_l {K : PySem.W.Frag} {H H' : Hp} {a : Addr} {xs : List V} (e : Ex H H') (h : SqL K H a xs) : SqL K H' a xs := by
  rcases h with h | h
  · exact .inl (ex_rd e h)
  · exact .inr h
theorem ex_t {K : PySem.W.Frag} {H H' : Hp} {a : Addr} {xs : List V} (e : Ex H H') (h : SqT K H a xs) : SqT K H' a xs := by
  rcases h with h | h
  · exact .inl (ex_rd e h)
  · exact .inr h

/-! ### values and their data -/
inductive Reps (K : PySem.W.Frag) (H : Hp) : List V → List D → Prop where
  | nil : Reps K H [] []
  | non {vs ds} : Reps K H vs ds → Reps K H (.non :: vs) (.non :: ds)
  | bl {b vs ds} : Reps K H vs ds → Reps K H (.bl b :: vs) (.bl b :: ds)
  | int {i vs ds} : Reps K H vs ds → Reps K H (.int i :: vs) (.int i :: ds)
  | str {s vs ds} : Reps K H vs ds → Reps K H (.str s :: vs) (.str s :: ds)
  | ty {n vs ds} : Reps K H vs ds → Reps K H (.ty n :: vs) (.ty n :: ds)
  | glb {a vs ds} : Reps K H vs ds → Reps K H (.ref a :: vs) (.glb a :: ds)
  | scr {a ns vs ds} : SqL K H a (ns.map V.int) → Reps K H vs ds → Reps K H (.ref a :: vs) (.scr ns :: ds)
  | lst {a ws es vs ds} : H a = some (.lst ws) → Reps K H ws es → Reps K H vs ds → Reps K H (.ref a :: vs) (.lst es :: ds)
  | tup {a ws es vs ds} : SqT K H a ws → Reps K H ws es → Reps K H vs ds → Reps K H (.ref a :: vs) (.tup es :: ds)
  | dic {a} {kvs : List (Key × V)} {kds : List (Key × D)} {ws : List V} {es : List D} {vs ds} : H a = some (.dK kvs) → kvs.map (·.1) = kds.map (·.1) → kvs.map (·.2) = ws → kds.map (·.2) = es → Reps K H ws es → Reps K H vs ds → Reps K H (.ref a :: vs) (.dic kds :: ds)
  | obj {a C dx} {fvs : List (Str × V)} {fds : List (Str × D)} {ws : List V} {es : List D} {vs ds} : H a = some (.ins C dx fvs) → fvs.map (·.1) = fds.map (·.1) → fvs.map (·.2) = ws → fds.map (·.2) = es → Reps K H ws es → Reps K H vs ds → Reps K H (.ref a :: vs) (.obj C fds :: ds)
def Rep (K : PySem.W.Frag) (H : Hp) (v : V) (d : D) : Prop := Reps K H [v] [d]
section
variable {K : PySem.W.Frag} {H H' : Hp} {v : V} {d : D} {vs ws : List V} {ds es : List D}
theorem Reps.mono (h : Reps K H vs ds) (e : Ex H H') : Reps K H' vs ds := by
  induction h with
  | nil => exact .nil
  | non _ ih => exact .non ih
  | bl _ ih => exact .bl ih
  | int _ ih => exact .int ih
  | str _ ih => exact .str ih
  | ty _ ih => exact .ty ih
  | glb _ ih => exact .glb ih
  | scr h1 _ ih => exact .scr (ex_l e h1) ih
  | lst h1 _ _ ih1 ih2 => exact .lst (e _ _ h1) ih1 ih2
  | tup h1 _ _ ih1 ih2 => exact .tup (ex_t e h1) ih1 ih2
  | dic h1 h2 h3 h4 _ _ ih1 ih2 => exact .dic (e _ _ h1) h2 h3 h4 ih1 ih2
  | obj h1 h2 h3 h4 _ _ ih1 ih2 => exact .obj (e _ _ h1) h2 h3 h4 ih1 ih2
theorem Rep.mono (h : Rep K H v d) (e : Ex H H') : Rep K H' v d := Reps.mono h e
theorem Reps.length (h : Reps K H vs ds) : vs.length = ds.length := by
  induction h with
  | nil => rfl
  | non _ ih | bl _ ih | int _ ih | str _ ih | ty _ ih | glb _ ih => simp [ih]
  | scr _ _ ih => simp [ih]
  | lst _ _ _ _ ih => simp [ih]
  | tup _ _ _ _ ih => simp [ih]
  | dic _ _ _ _ _ _ _ ih => simp [ih]
  | obj _ _ _ _ _ _ _ ih => simp [ih]
theorem Reps.cons (h : Rep K H v d) (t : Reps K H vs ds) : Reps K H (v :: vs) (d :: ds) := by
  cases h with
  | non _ => exact .non t
  | bl _ => exact .bl t
  | int _ => exact .int t
  | str _ => exact .str t
  | ty _ => exact .ty t
  | glb _ => exact .glb t
  | scr h1 _ => exact .scr h1 t
  | lst h1 h2 _ => exact .lst h1 h2 t
  | tup h1 h2 _ => exact .tup h1 h2 t
  | dic h1 h2 h3 h4 h5 _ => exact .dic h1 h2 h3 h4 h5 t
  | obj h1 h2 h3 h4 h5 _ => exact .obj h1 h2 h3 h4 h5 t
theorem Reps.uncons (h : Reps K H (v :: vs) (d :: ds)) : Rep K H v d ∧ Reps K H vs ds := by
  cases h with
  | non t => exact ⟨.non .nil, t⟩
  | bl t => exact ⟨.bl .nil, t⟩
  | int t => exact ⟨.int .nil, t⟩
  | str t => exact ⟨.str .nil, t⟩
  | ty t => exact ⟨.ty .nil, t⟩
  | glb t => exact ⟨.glb .nil, t⟩
  | scr h1 t => exact ⟨.scr h1 .nil, t⟩
  | lst h1 h2 t => exact ⟨.lst h1 h2 .nil, t⟩
  | tup h1 h2 t => exact ⟨.tup h1 h2 .nil, t⟩
  | dic h1 h2 h3 h4 h5 t => exact ⟨.dic h1 h2 h3 h4 h5 .nil, t⟩
  | obj h1 h2 h3 h4 h5 t => exact ⟨.obj h1 h2 h3 h4 h5 .nil, t⟩
theorem Reps.nil_inv (h : Reps K H vs []) : vs = [] := by cases h; rfl
theorem Reps.nil_inv' (h : Reps K H [] ds) : ds = [] := by cases h; rfl
theorem Reps.cons_inv (h : Reps K H vs (d :: ds)) : ∃ v us, vs = v :: us ∧ Rep K H v d ∧ Reps K H us ds := by
  cases vs with
  | nil => cases h
  | cons v us => exact ⟨v, us, rfl, h.uncons.1, h.uncons.2⟩
theorem Reps.cons_inv' (h : Reps K H (v :: vs) ds) : ∃ d es, ds = d :: es ∧ Rep K H v d ∧ Reps K H vs es := by
  cases ds with
  | nil => cases h
  | cons d es => exact ⟨d, es, rfl, h.uncons.1, h.uncons.2⟩
theorem Reps.append (h : Reps K H vs ds) (h' : Reps K H ws es) : Reps K H (vs ++ ws) (ds ++ es) := by
  induction vs generalizing ds with
  | nil => obtain rfl := h.nil_inv'; exact h'
  | cons v vs ih =>
    obtain ⟨d, ds', rfl, h1, h2⟩ := h.cons_inv'
    exact .cons h1 (ih h2)
theorem Reps.get (h : Reps K H vs ds) {i : Nat} (e : ds[i]? = some d) : ∃ v, vs[i]? = some v ∧ Rep K H v d := by
  induction vs generalizing ds i with
  | nil => obtain rfl := h.nil_inv'; simp at e
  | cons v vs ih =>
    obtain ⟨d', ds', rfl, h1, h2⟩ := h.cons_inv'
    cases i with
    | zero => simp at e; subst e; exact ⟨v, rfl, h1⟩
    | succ i => simpa using ih h2 (by simpa using e)
theorem Reps.get' (h : Reps K H vs ds) {i : Nat} (e : vs[i]? = some v) : ∃ d, ds[i]? = some d ∧ Rep K H v d := by
  induction vs generalizing ds i with
  | nil => simp at e
  | cons v' vs ih =>
    obtain ⟨d', ds', rfl, h1, h2⟩ := h.cons_inv'
    cases i with
    | zero => simp at e; subst e; exact ⟨d', rfl, h1⟩
    | succ i => simpa using ih h2 (by simpa using e)
theorem Reps.take (h : Reps K H vs ds) (n : Nat) : Reps K H (vs.take n) (ds.take n) := by
  induction vs generalizing ds n with
  | nil => obtain rfl := h.nil_inv'; simp; exact .nil
  | cons v' vs ih =>
    obtain ⟨d', ds', rfl, h1, h2⟩ := h.cons_inv'
    cases n with
    | zero => simp; exact .nil
    | succ n => exact .cons h1 (ih h2 n)
theorem Reps.drop (h : Reps K H vs ds) (n : Nat) : Reps K H (vs.drop n) (ds.drop n) := by
  induction vs generalizing ds n with
  | nil => obtain rfl := h.nil_inv'; simp; exact .nil
  | cons v' vs ih =>
    obtain ⟨d', ds', rfl, h1, h2⟩ := h.cons_inv'
    cases n with
    | zero => exact .cons h1 h2
    | succ n => exact ih h2 n
theorem Reps.set (h : Reps K H vs ds) (n : Nat) (r : Rep K H v d) : Reps K H (vs.set n v) (ds.set n d) := by
  induction vs generalizing ds n with
  | nil => obtain rfl := h.nil_inv'; simp; exact .nil
  | cons v' vs ih =>
    obtain ⟨d', ds', rfl, h1, h2⟩ := h.cons_inv'
    cases n with
    | zero => exact .cons r h2
    | succ n => exact .cons h1 (ih h2 n)
theorem Reps.erase (h : Reps K H vs ds) (n : Nat) : Reps K H (vs.eraseIdx n) (ds.eraseIdx n) := by
  induction vs generalizing ds n with
  | nil => obtain rfl := h.nil_inv'; simp; exact .nil
  | cons v' vs ih =>
    obtain ⟨d', ds', rfl, h1, h2⟩ := h.cons_inv'
    cases n with
    | zero => exact h2
    | succ n => exact .cons h1 (ih h2 n)
theorem Reps.reverse (h : Reps K H vs ds) : Reps K H vs.reverse ds.reverse := by
  induction vs generalizing ds with
  | nil => obtain rfl := h.nil_inv'; exact .nil
  | cons v' vs ih =>
    obtain ⟨d', ds', rfl, h1, h2⟩ := h.cons_inv'
    rw [List.reverse_cons, List.reverse_cons]
    exact (ih h2).append (.cons h1 .nil)
theorem Reps.ints (ns : List Int) : Reps K H (ns.map V.int) (ns.map D.int) := by
  induction ns with
  | nil => exact .nil
  | cons n ns ih => exact .int ih
theorem Reps.ints_inv {ns : List Int} (h : Reps K H vs (ns.map D.int)) : vs = ns.map V.int := by
  induction ns generalizing vs with
  | nil => exact h.nil_inv
  | cons n ns ih =>
    obtain ⟨v, us, rfl, h1, h2⟩ := Reps.cons_inv h
    cases h1
    rw [ih h2]; rfl
theorem Reps.bls_inv {bs : List Bool} (h : Reps K H vs (bs.map D.bl)) : vs = bs.map V.bl := by
  induction bs generalizing vs with
  | nil => exact h.nil_inv
  | cons n ns ih =>
    obtain ⟨v, us, rfl, h1, h2⟩ := Reps.cons_inv h
    cases h1
    rw [ih h2]; rfl
theorem Reps.strs_inv {bs : List Str} (h : Reps K H vs (bs.map D.str)) : vs = bs.map V.str := by
  induction bs generalizing vs with
  | nil => exact h.nil_inv
  | cons n ns ih =>
    obtain ⟨v, us, rfl, h1, h2⟩ := Reps.cons_inv h
    cases h1
    rw [ih h2]; rfl
theorem Rep.non_inv (h : Rep K H v .non) : v = .non := by cases h; rfl
theorem Rep.bl_inv {b} (h : Rep K H v (.bl b)) : v = .bl b := by cases h; rfl
theorem Rep.int_inv {b} (h : Rep K H v (.int b)) : v = .int b := by cases h; rfl
theorem Rep.str_inv {b} (h : Rep K H v (.str b)) : v = .str b := by cases h; rfl
theorem Rep.ty_inv {b} (h : Rep K H v (.ty b)) : v = .ty b := by cases h; rfl
theorem Rep.glb_inv {b} (h : Rep K H v (.glb b)) : v = .ref b := by cases h; rfl
theorem Rep.scr_inv {ns} (h : Rep K H v (.scr ns)) : ∃ a, v = .ref a ∧ SqL K H a (ns.map V.int) := by cases h; exact ⟨_, rfl, by assumption⟩
theorem Rep.lst_inv (h : Rep K H v (.lst es)) : ∃ a ws, v = .ref a ∧ H a = some (.lst ws) ∧ Reps K H ws es := by cases h; exact ⟨_, _, rfl, by assumption, by assumption⟩
theorem Rep.tup_inv (h : Rep K H v (.tup es)) : ∃ a ws, v = .ref a ∧ SqT K H a ws ∧ Reps K H ws es := by cases h; exact ⟨_, _, rfl, by assumption, by assumption⟩
theorem Rep.obj_inv {C fds} (h : Rep K H v (.obj C fds)) : ∃ a dx fvs, v = .ref a ∧ H a = some (.ins C dx fvs) ∧ fvs.map (·.1) = fds.map (·.1) ∧ Reps K H (fvs.map (·.2)) (fds.map (·.2)) := by
  cases h with
  | obj h1 h2 h3 h4 h5 _ => subst h3; subst h4; exact ⟨_, _, _, rfl, h1, h2, h5⟩
theorem Rep.dic_inv {kds} (h : Rep K H v (.dic kds)) : ∃ a kvs, v = .ref a ∧ H a = some (.dK kvs) ∧ kvs.map (·.1) = kds.map (·.1) ∧ Reps K H (kvs.map (·.2)) (kds.map (·.2)) := by
  cases h with
  | dic h1 h2 h3 h4 h5 _ => subst h3; subst h4; exact ⟨_, _, rfl, h1, h2, h5⟩
theorem Rep.lst {a ws} (h : H a = some (.lst ws)) (r : Reps K H ws es) : Rep K H (.ref a) (.lst es) := Reps.lst h r .nil
theorem Rep.tup {a ws} (h : SqT K H a ws) (r : Reps K H ws es) : Rep K H (.ref a) (.tup es) := Reps.tup h r .nil
theorem Rep.int {i} : Rep K H (.int i) (.int i) := Reps.int .nil
theorem Rep.bl {i} : Rep K H (.bl i) (.bl i) := Reps.bl .nil
theorem Rep.str {i} : Rep K H (.str i) (.str i) := Reps.str .nil
theorem Rep.non : Rep K H .non .non := Reps.non .nil
end

/-! ### slots: forgotten; shared; our own, made here; our own, handed in -/
inductive Sl where
  | e | s (d : D) | o (d : D) | m (d : D)
abbrev En := List Sl
/-- what an object of our own is -/
def OwR (K : PySem.W.Frag) (H0 : Hp) : HO → D → Prop
  | .lst vs, .lst ds => Reps K H0 vs ds
  | .dK kvs, .dic kds => kvs.map (·.1) = kds.map (·.1) ∧ Reps K H0 (kvs.map (·.2)) (kds.map (·.2))
  | .ins C _ fvs, .obj C' fds => C = C' ∧ fvs.map (·.1) = fds.map (·.1) ∧ Reps K H0 (fvs.map (·.2)) (fds.map (·.2))
  | _, _ => False
/-- what may be written -/
def Wr : HO → Prop
  | .lst _ | .dK _ | .dT _ | .set _ _ | .ins _ _ _ => True
  | _ => False
theorem OwR.mono {K : PySem.W.Frag} {H0 H0' : Hp} {o : HO} {d : D} (h : OwR K H0 o d) (e : Ex H0 H0') : OwR K H0' o d := by
  unfold OwR at h ⊢
  split at h
  · exact h.mono e
  · exact ⟨h.1, h.2.mono e⟩
  · exact ⟨h.1, h.2.1, h.2.2.mono e⟩
  · exact h.elim
theorem OwR.wr {K : PySem.W.Frag} {H0 : Hp} {o : HO} {d : D} (h : OwR K H0 o d) : Wr o := by
  unfold OwR at h
  split at h
  · trivial
  · trivial
  · trivial
  · exact h.elim
theorem OwR.lst_inv {K : PySem.W.Frag} {H0 : Hp} {o : HO} {ds : List D} (h : OwR K H0 o (.lst ds)) : ∃ vs, o = .lst vs ∧ Reps K H0 vs ds := by
  cases o <;> first | exact ⟨_, rfl, h⟩ | exact (show False from h).elim
theorem OwR.dic_inv {K : PySem.W.Frag} {H0 : Hp} {o : HO} {ds : List (Key × D)} (h : OwR K H0 o (.dic ds)) : ∃ kvs, o = .dK kvs ∧ kvs.map (·.1) = ds.map (·.1) ∧ Reps K H0 (kvs.map (·.2)) (ds.map (·.2)) := by
  cases o <;> first | exact ⟨_, rfl, h⟩ | exact (show False from h).elim
theorem OwR.obj_inv {K : PySem.W.Frag} {H0 : Hp} {o : HO} {C : Addr} {ds : List (Str × D)} (h : OwR K H0 o (.obj C ds)) : ∃ dx fvs, o = .ins C dx fvs ∧ fvs.map (·.1) = ds.map (·.1) ∧ Reps K H0 (fvs.map (·.2)) (ds.map (·.2)) := by
  cases o with
  | ins C1 dx fvs =>
    obtain ⟨h0, h⟩ : C1 = C ∧ fvs.map Prod.fst = ds.map Prod.fst ∧ Reps K H0 (fvs.map Prod.snd) (ds.map Prod.snd) := h
    subst h0
    exact ⟨_, _, rfl, h⟩
  | _ => exact (show False from h).elim
/-- laid among what is shared, our own object is what it was -/
theorem OwR.rep {K : PySem.W.Frag} {H0 : Hp} {o : HO} {d : D} {a : Addr} (h : OwR K H0 o d) (hn : H0 a = none) : Rep K (upd H0 a o) (.ref a) d := by
  have e : Ex H0 (upd H0 a o) := Ex.new hn
  unfold OwR at h
  split at h
  · exact Reps.lst upd_same (h.mono e) .nil
  · exact Reps.dic upd_same h.1 rfl rfl (h.2.mono e) .nil
  · obtain ⟨rfl, h1, h2⟩ := h
    exact Reps.obj upd_same h1 rfl rfl (h2.mono e) .nil
  · exact h.elim
/-- the call's frame: what stood at its entry; the address of the object that it may turn -/
structure Fm where
  He0 : Hp
  He : Hp
  M : Option Addr
  G : List (Addr × HO) := []
/-- a further object that is to stay as it is -/
def Fm.gh (m : Fm) (a : Addr) (o : HO) : Fm := { m with G := (a, o) :: m.G }
structure JOk (J : Hp → Prop) : Prop where
  ext : ∀ H H', J H → Ex H H' → J H'
  wr : ∀ H a o o', J H → H a = some o' → Wr o' → J (upd H a o)
theorem JOk.true : JOk fun _ => True := ⟨fun _ _ _ _ => trivial, fun _ _ _ _ _ _ _ => trivial⟩
structure Stp (J : Hp → Prop) (M : Option Addr) (H0 H H0' H' : Hp) : Prop where
  sh : Ex H0 H0'
  sub : Ex H0' H'
  pr : ∀ a o, H a = some o → H0 a = none → H0' a = none ∧ ∃ o', H' a = some o' ∧ (o' = o ∨ M = some a ∨ ∃ ps ps', o = .tbl ps ∧ o' = .tbl ps')
  J : J H → J H'
theorem Stp.refl {J : Hp → Prop} {M : Option Addr} {H0 H : Hp} (e : Ex H0 H) : Stp J M H0 H H0 H := ⟨Ex.refl _, e, fun _ o h h0 => ⟨h0, o, h, .inl rfl⟩, id⟩
/-- a callee's step is one of ours if what it may turn is ours -/
theorem Stp.trans {J : Hp → Prop} {M M' : Option Addr} {H0 H H0' H' H0'' H'' : Hp} (a : Stp J M H0 H H0' H') (b : Stp J M' H0' H' H0'' H'') (hM : ∀ x, M' = some x → M = some x ∨ H x = none) : Stp J M H0 H H0'' H'' := by
  refine ⟨a.sh.trans b.sh, b.sub, fun x o h h0 => ?_, fun j => b.J (a.J j)⟩
  obtain ⟨n1, o1, h1, e1⟩ := a.pr x o h h0
  obtain ⟨n2, o2, h2, e2⟩ := b.pr x o1 h1 n1
  refine ⟨n2, o2, h2, ?_⟩
  rcases e2 with rfl | e2 | ⟨ps, ps', e2, e3⟩
  · exact e1
  · rcases hM x e2 with q | q
    · exact .inr (.inl q)
    · rw [h] at q; cases q
  · rcases e1 with rfl | e1 | ⟨qs, qs', e4, e5⟩
    · exact .inr (.inr ⟨ps, ps', e2, e3⟩)
    · exact .inr (.inl e1)
    · exact .inr (.inr ⟨qs, ps', e4, e3⟩)
def SlR (K : PySem.W.Frag) (m : Fm) (H0 H : Hp) (v : Option (Option V)) : Sl → Prop
  | .e => True
  | .s d => ∃ u, v = some (some u) ∧ Rep K H0 u d
  | .o d => ∃ a o, v = some (some (.ref a)) ∧ H0 a = none ∧ H a = some o ∧ OwR K H0 o d ∧ m.He a = none
  | .m d => ∃ a o, v = some (some (.ref a)) ∧ H0 a = none ∧ H a = some o ∧ OwR K H0 o d ∧ m.M = some a
structure In (K : PySem.W.Frag) (J : Hp → Prop) (m : Fm) (σ : St) (ρ : En) (H0 H : Hp) : Prop where
  st : Stp J m.M m.He0 m.He H0 H
  j : J H
  me : ∀ a, m.M = some a → m.He a ≠ none
  len : σ.length = ρ.length
  sl : ∀ (i : Nat) (sl : Sl), ρ[i]? = some sl → SlR K m H0 H (σ[i]?) sl
  inj : ∀ (i j : Nat) (d d' : D), ρ[i]? = some (.o d) → ρ[j]? = some (.o d') → σ[i]? = σ[j]? → i = j
  one : ∀ (i j : Nat) (d d' : D), ρ[i]? = some (.m d) → ρ[j]? = some (.m d') → i = j
  gh : ∀ p ∈ m.G, H0 p.1 = none ∧ H p.1 = some p.2 ∧ m.He p.1 = none ∧ (∀ (i : Nat) (d : D), ρ[i]? = some (.o d) → σ[i]? ≠ some (some (.ref p.1))) ∧ Wr p.2
section
variable {K : PySem.W.Frag} {J : Hp → Prop} {m : Fm} {σ : St} {ρ : En} {H0 H : Hp} {p a : Addr} {o o' : HO} {i : Nat} {d d' : D} {v : V}
theorem In.sub (I : In K J m σ ρ H0 H) : Ex H0 H := I.st.sub
theorem In.free (I : In K J m σ ρ H0 H) (h : H p = none) : H0 p = none := I.sub.free h
theorem SlR.keep {H0' H' : Hp} {u : Option (Option V)} {sl : Sl} (h : SlR K m H0 H u sl) (e : Ex H0 H0') (hn : ∀ a o, H a = some o → H0 a = none → Wr o → H0' a = none ∧ H' a = some o) : SlR K m H0' H' u sl := by
  cases sl with
  | e => trivial
  | s d => obtain ⟨w, e1, r⟩ := h; exact ⟨w, e1, r.mono e⟩
  | o d => obtain ⟨b, ob, e1, n, q, r, z⟩ := h; obtain ⟨n', q'⟩ := hn b ob q n r.wr; exact ⟨b, ob, e1, n', q', r.mono e, z⟩
  | m d => obtain ⟨b, ob, e1, n, q, r, z⟩ := h; obtain ⟨n', q'⟩ := hn b ob q n r.wr; exact ⟨b, ob, e1, n', q', r.mono e, z⟩
/-- a new object, shared -/
theorem In.alloc (hJ : JOk J) (I : In K J m σ ρ H0 H) (h : H p = none) : In K J m σ ρ (upd H0 p o) (upd H p o) := by
  have n0 := I.free h
  refine ⟨⟨I.st.sh.trans (Ex.new n0), I.sub.up, fun b ob q q0 => ?_, fun j => hJ.ext _ _ (I.st.J j) (Ex.new h)⟩, hJ.ext _ _ I.j (Ex.new h), I.me, I.len, fun i sl e => (I.sl i sl e).keep (Ex.new n0) fun b ob q n _ => ?_, I.inj, I.one, fun g hg => ?_⟩
  · obtain ⟨n1, o1, h1, e1⟩ := I.st.pr b ob q q0
    have hb : b ≠ p := ne_of_none h1 h
    exact ⟨by rw [upd_ne hb]; exact n1, o1, by rw [upd_ne hb]; exact h1, e1⟩
  · have hb : b ≠ p := ne_of_none q h
    exact ⟨by rw [upd_ne hb]; exact n, by rw [upd_ne hb]; exact q⟩
  · obtain ⟨g1, g2, g3, g4, g5⟩ := I.gh g hg
    have hb : g.1 ≠ p := ne_of_none g2 h
    exact ⟨by rw [upd_ne hb]; exact g1, by rw [upd_ne hb]; exact g2, g3, g4, g5⟩
/-- a new object of which nobody knows -/
theorem In.allocP (hJ : JOk J) (I : In K J m σ ρ H0 H) (h : H p = none) : In K J m σ ρ H0 (upd H p o) := by
  have n0 := I.free h
  refine ⟨⟨I.st.sh, I.sub.mut n0, fun b ob q q0 => ?_, fun j => hJ.ext _ _ (I.st.J j) (Ex.new h)⟩, hJ.ext _ _ I.j (Ex.new h), I.me, I.len, fun i sl e => (I.sl i sl e).keep (Ex.refl _) fun b ob q n _ => ?_, I.inj, I.one, fun g hg => ?_⟩
  · obtain ⟨n1, o1, h1, e1⟩ := I.st.pr b ob q q0
    have hb : b ≠ p := ne_of_none h1 h
    exact ⟨n1, o1, by rw [upd_ne hb]; exact h1, e1⟩
  · have hb : b ≠ p := ne_of_none q h
    exact ⟨n, by rw [upd_ne hb]; exact q⟩
  · obtain ⟨g1, g2, g3, g4, g5⟩ := I.gh g hg
    have hb : g.1 ≠ p := ne_of_none g2 h
    exact ⟨g1, by rw [upd_ne hb]; exact g2, g3, g4, g5⟩
/-- what nobody knows becomes shared -/
theorem In.share (I : In K J m σ ρ H0 H) (h : H p = some o) (n0 : H0 p = none) (he : m.He p = none) (hne : ∀ (i : Nat) d, ρ[i]? = some (.o d) → σ[i]? ≠ some (some (.ref p))) (hg : ∀ g ∈ m.G, g.1 ≠ p) : In K J m σ ρ (upd H0 p o) H := by
  have ex : Ex H0 (upd H0 p o) := Ex.new n0
  refine ⟨⟨I.st.sh.trans ex, fun b ob q => ?_, fun b ob q q0 => ?_, I.st.J⟩, I.j, I.me, I.len, fun i sl e => ?_, I.inj, I.one, fun g hgm => ?_⟩
  · by_cases c : b = p
    · subst c; rw [upd_same] at q; cases q; exact h
    · rw [upd_ne c] at q; exact I.sub b ob q
  · obtain ⟨n1, o1, h1, e1⟩ := I.st.pr b ob q q0
    have hb : b ≠ p := ne_of_none q he
    exact ⟨by rw [upd_ne hb]; exact n1, o1, h1, e1⟩
  · have x := I.sl i sl e
    cases sl with
    | e => trivial
    | s d => obtain ⟨w, e1, r⟩ := x; exact ⟨w, e1, r.mono ex⟩
    | o d =>
      obtain ⟨b, ob, e1, n, q, r, z⟩ := x
      have hb : b ≠ p := fun c => hne i d e (by rw [e1, c])
      exact ⟨b, ob, e1, by rw [upd_ne hb]; exact n, q, r.mono ex, z⟩
    | m d =>
      obtain ⟨b, ob, e1, n, q, r, z⟩ := x
      have hb : b ≠ p := fun c => I.me b z (by rw [c]; exact he)
      exact ⟨b, ob, e1, by rw [upd_ne hb]; exact n, q, r.mono ex, z⟩
  · obtain ⟨g1, g2, g3, g4, g5⟩ := I.gh g hgm
    exact ⟨by rw [upd_ne (hg g hgm)]; exact g1, g2, g3, g4, g5⟩
theorem get_set {α : Type} {l : List α} {i j : Nat} {x y : α} (h : (l.set i x)[j]? = some y) : (i = j ∧ i < l.length ∧ y = x) ∨ (i ≠ j ∧ l[j]? = some y) := by
  by_cases c : i = j
  · subst c
    by_cases hl : i < l.length
    · rw [List.getElem?_set_self hl] at h; cases h; exact .inl ⟨rfl, hl, rfl⟩
    · rw [List.getElem?_eq_none (by simp; omega)] at h; cases h
  · rw [List.getElem?_set_ne c] at h; exact .inr ⟨c, h⟩
/-- a slot is stored, shared -/
theorem In.set_s (I : In K J m σ ρ H0 H) (r : Rep K H0 v d) : In K J m (σ.set i (some v)) (ρ.set i (.s d)) H0 H := by
  refine ⟨I.st, I.j, I.me, by simp [I.len], fun j sl e => ?_, fun j k d1 d2 e1 e2 e3 => ?_, fun j k d1 d2 e1 e2 => ?_, fun g hg => ?_⟩
  case refine_4 =>
    obtain ⟨g1, g2, g3, g4, g5⟩ := I.gh g hg
    refine ⟨g1, g2, g3, fun j d' hj => ?_, g5⟩
    rcases get_set hj with ⟨rfl, hl, e⟩ | ⟨c, hj⟩
    · cases e
    · rw [List.getElem?_set_ne c]; exact g4 j d' hj
  · rcases get_set e with ⟨rfl, hl, rfl⟩ | ⟨c, e⟩
    · exact ⟨v, by rw [List.getElem?_set_self (by rw [I.len]; exact hl)], r⟩
    · rw [List.getElem?_set_ne c]; exact I.sl j sl e
  · rcases get_set e1 with ⟨rfl, hl, e⟩ | ⟨c, e1⟩
    · cases e
    · rcases get_set e2 with ⟨rfl, hl, e⟩ | ⟨c', e2⟩
      · cases e
      · rw [List.getElem?_set_ne c, List.getElem?_set_ne c'] at e3; exact I.inj j k d1 d2 e1 e2 e3
  · rcases get_set e1 with ⟨rfl, hl, e⟩ | ⟨c, e1⟩
    · cases e
    · rcases get_set e2 with ⟨rfl, hl, e⟩ | ⟨c', e2⟩
      · cases e
      · exact I.one j k d1 d2 e1 e2
/-- a slot is forgotten -/
theorem In.set_e (I : In K J m σ ρ H0 H) : In K J m σ (ρ.set i .e) H0 H := by
  refine ⟨I.st, I.j, I.me, by simp [I.len], fun j sl e => ?_, fun j k d1 d2 e1 e2 e3 => ?_, fun j k d1 d2 e1 e2 => ?_, fun g hg => ?_⟩
  case refine_4 =>
    obtain ⟨g1, g2, g3, g4, g5⟩ := I.gh g hg
    refine ⟨g1, g2, g3, fun j d' hj => ?_, g5⟩
    rcases get_set hj with ⟨rfl, hl, e⟩ | ⟨c, hj⟩
    · cases e
    · exact g4 j d' hj
  · rcases get_set e with ⟨rfl, hl, rfl⟩ | ⟨c, e⟩
    · trivial
    · exact I.sl j sl e
  · rcases get_set e1 with ⟨rfl, hl, e⟩ | ⟨c, e1⟩
    · cases e
    · rcases get_set e2 with ⟨rfl, hl, e⟩ | ⟨c', e2⟩
      · cases e
      · exact I.inj j k d1 d2 e1 e2 e3
  · rcases get_set e1 with ⟨rfl, hl, e⟩ | ⟨c, e1⟩
    · cases e
    · rcases get_set e2 with ⟨rfl, hl, e⟩ | ⟨c', e2⟩
      · cases e
      · exact I.one j k d1 d2 e1 e2
/-- a slot's value is forgotten with it -/
theorem In.wipe_e (I : In K J m σ ρ H0 H) : In K J m (σ.set i none) (ρ.set i .e) H0 H := by
  have I' := I.set_e (i := i)
  refine ⟨I'.st, I'.j, I'.me, by simp [I.len], fun j sl e => ?_, fun j k d1 d2 e1 e2 e3 => ?_, I'.one, fun g hg => ?_⟩
  case refine_3 =>
    obtain ⟨g1, g2, g3, g4, g5⟩ := I'.gh g hg
    refine ⟨g1, g2, g3, fun j d' hj => ?_, g5⟩
    have hj0 := hj
    rcases get_set hj with ⟨rfl, hl, e⟩ | ⟨c, hj⟩
    · cases e
    · rw [List.getElem?_set_ne c]; exact g4 j d' hj0
  · rcases get_set e with ⟨rfl, hl, rfl⟩ | ⟨c, e⟩
    · trivial
    · rw [List.getElem?_set_ne c]; exact I.sl j sl e
  · rcases get_set e1 with ⟨rfl, hl, e⟩ | ⟨c, e1⟩
    · cases e
    · rcases get_set e2 with ⟨rfl, hl, e⟩ | ⟨c', e2⟩
      · cases e
      · rw [List.getElem?_set_ne c, List.getElem?_set_ne c'] at e3; exact I.inj j k d1 d2 e1 e2 e3
/-- an object that is new and nobody's as yet -/
structure Fresh (K : PySem.W.Frag) (m : Fm) (σ : St) (ρ : En) (H0 H : Hp) (a : Addr) (d : D) : Prop where
  n0 : H0 a = none
  ob : ∃ o, H a = some o ∧ OwR K H0 o d
  he : m.He a = none
  ne : ∀ (i : Nat) d, ρ[i]? = some (.o d) → σ[i]? ≠ some (some (.ref a))
  gh : ∀ g ∈ m.G, g.1 ≠ a
theorem In.fresh_new (I : In K J m σ ρ H0 H) (h : H a = none) : m.He a = none := by
  cases q : m.He a with
  | none => rfl
  | some o =>
    cases q0 : m.He0 a with
    | none =>
      obtain ⟨_, o', h', _⟩ := I.st.pr a o q q0
      rw [h] at h'; cases h'
    | some o2 =>
      have := I.sub _ _ (I.st.sh _ _ q0)
      rw [h] at this; cases this
theorem In.ne_new (I : In K J m σ ρ H0 H) (h : H a = none) (i : Nat) (d : D) (e : ρ[i]? = some (.o d)) : σ[i]? ≠ some (some (.ref a)) := fun z => by
  obtain ⟨b, ob, e1, n, q, r, w⟩ := I.sl i _ e
  rw [e1] at z
  have : b = a := by injection z with z; injection z with z; injection z
  rw [this, h] at q; cases q
theorem In.fresh (hJ : JOk J) (I : In K J m σ ρ H0 H) (h : H a = none) (r : OwR K H0 o d) : In K J m σ ρ H0 (upd H a o) ∧ Fresh K m σ ρ H0 (upd H a o) a d :=
  ⟨I.allocP hJ h, I.free h, ⟨o, upd_same, r⟩, I.fresh_new h, I.ne_new h, fun g hg => ne_of_none (I.gh g hg).2.1 h⟩
theorem Fresh.shared (I : In K J m σ ρ H0 H) (f : Fresh K m σ ρ H0 H a d) : ∃ H0', Ex H0 H0' ∧ In K J m σ ρ H0' H ∧ Rep K H0' (.ref a) d := by
  obtain ⟨o, h, r⟩ := f.ob
  exact ⟨upd H0 a o, Ex.new f.n0, I.share h f.n0 f.he f.ne f.gh, r.rep f.n0⟩
/-- a slot is stored, our own -/
theorem In.set_o (I : In K J m σ ρ H0 H) (f : Fresh K m σ ρ H0 H a d) : In K J m (σ.set i (some (.ref a))) (ρ.set i (.o d)) H0 H := by
  obtain ⟨o, h, r⟩ := f.ob
  refine ⟨I.st, I.j, I.me, by simp [I.len], fun j sl e => ?_, fun j k d1 d2 e1 e2 e3 => ?_, fun j k d1 d2 e1 e2 => ?_, fun g hg => ?_⟩
  case refine_4 =>
    obtain ⟨g1, g2, g3, g4, g5⟩ := I.gh g hg
    refine ⟨g1, g2, g3, fun j d' hj => ?_, g5⟩
    rcases get_set hj with ⟨rfl, hl, e⟩ | ⟨c, hj⟩
    · rw [List.getElem?_set_self (by rw [I.len]; exact hl)]
      intro z
      injection z with z; injection z with z; injection z with z
      exact f.gh g hg z.symm
    · rw [List.getElem?_set_ne c]; exact g4 j d' hj
  · rcases get_set e with ⟨rfl, hl, rfl⟩ | ⟨c, e⟩
    · exact ⟨a, o, by rw [List.getElem?_set_self (by rw [I.len]; exact hl)], f.n0, h, r, f.he⟩
    · rw [List.getElem?_set_ne c]; exact I.sl j sl e
  · rcases get_set e1 with ⟨rfl, hl, e⟩ | ⟨c, e1⟩
    · rcases get_set e2 with ⟨rfl, _, e'⟩ | ⟨c', e2⟩
      · rfl
      · rw [List.getElem?_set_self (by rw [I.len]; exact hl), List.getElem?_set_ne c'] at e3
        exact absurd e3.symm (f.ne k d2 e2)
    · rcases get_set e2 with ⟨rfl, hl, e'⟩ | ⟨c', e2⟩
      · rw [List.getElem?_set_self (by rw [I.len]; exact hl), List.getElem?_set_ne c] at e3
        exact absurd e3 (f.ne j d1 e1)
      · rw [List.getElem?_set_ne c, List.getElem?_set_ne c'] at e3; exact I.inj j k d1 d2 e1 e2 e3
  · rcases get_set e1 with ⟨rfl, hl, e⟩ | ⟨c, e1⟩
    · cases e
    · rcases get_set e2 with ⟨rfl, hl, e⟩ | ⟨c', e2⟩
      · cases e
      · exact I.one j k d1 d2 e1 e2
/-- our own becomes shared -/
theorem In.freeze (I : In K J m σ ρ H0 H) (e : ρ[i]? = some (.o d)) : ∃ H0', Ex H0 H0' ∧ In K J m σ (ρ.set i (.s d)) H0' H := by
  obtain ⟨a, o, e1, n, q, r, z⟩ := I.sl i _ e
  have I' := I.set_e (i := i)
  have hne : ∀ (j : Nat) d', (ρ.set i .e)[j]? = some (.o d') → σ[j]? ≠ some (some (.ref a)) := fun j d' hj z => by
    rcases get_set hj with ⟨rfl, hl, e⟩ | ⟨c, hj⟩
    · cases e
    · exact c (I.inj i j d d' e hj (by rw [e1, z]))
  have I2 := I'.share (o := o) q n z hne fun g hg w => (I.gh g hg).2.2.2.1 i d e (by rw [e1, w])
  refine ⟨upd H0 a o, Ex.new n, ?_⟩
  have I3 := I2.set_s (i := i) (r.rep n)
  have hσ : σ.set i (some (.ref a)) = σ := by
    apply List.ext_getElem? ; intro j
    by_cases c : i = j
    · subst c
      have hl : i < σ.length := (List.getElem?_eq_some_iff.mp e1).1
      rw [List.getElem?_set_self hl, e1]
    · rw [List.getElem?_set_ne c]
  rw [hσ] at I3
  simpa using I3
/-- our own object is turned -/
theorem In.turn (hJ : JOk J) (I : In K J m σ ρ H0 H) (e : ρ[i]? = some (.o d)) (ha : σ[i]? = some (some (.ref a))) (r : OwR K H0 o' d') : In K J m σ (ρ.set i (.o d')) H0 (upd H a o') := by
  obtain ⟨a', o, e1, n, q, r0, z⟩ := I.sl i _ e
  have : a' = a := by rw [ha] at e1; injection e1 with e1; injection e1 with e1; injection e1 with e1; exact e1.symm
  subst this
  have keep : ∀ b, b ≠ a' → upd H a' o' b = H b := fun b hb => upd_ne hb
  have hi : i < ρ.length := (List.getElem?_eq_some_iff.mp e).1
  refine ⟨⟨I.st.sh, I.sub.mut n, fun b ob h h0 => ?_, fun j => hJ.wr _ _ _ _ (I.st.J j) q r0.wr⟩, hJ.wr _ _ _ _ I.j q r0.wr, I.me, by simp [I.len], fun j sl ej => ?_, fun j k d1 d2 e2 e3 e4 => ?_, fun j k d1 d2 e2 e3 => ?_, fun g hg => ?_⟩
  case refine_5 =>
    obtain ⟨g1, g2, g3, g4, g5⟩ := I.gh g hg
    have hga : g.1 ≠ a' := fun w => g4 i d e (by rw [e1, w])
    refine ⟨g1, by rw [upd_ne hga]; exact g2, g3, fun j d' hj => ?_, g5⟩
    rcases get_set hj with ⟨rfl, hl, ee⟩ | ⟨c, hj⟩
    · exact g4 i d e
    · exact g4 j d' hj
  · obtain ⟨n1, o1, h1, x1⟩ := I.st.pr b ob h h0
    have hb : b ≠ a' := ne_of_none h z
    exact ⟨n1, o1, by rw [upd_ne hb]; exact h1, x1⟩
  · rcases get_set ej with ⟨rfl, hl, rfl⟩ | ⟨c, ej⟩
    · exact ⟨a', o', e1, n, upd_same, r, z⟩
    · have x := I.sl j sl ej
      cases sl with
      | e => trivial
      | s d => exact x
      | o d2 =>
        obtain ⟨b, ob, f1, f2, f3, f4, f5⟩ := x
        have hb : b ≠ a' := fun w => c (I.inj i j d d2 e ej (by rw [e1, f1, w]))
        exact ⟨b, ob, f1, f2, by rw [upd_ne hb]; exact f3, f4, f5⟩
      | m d2 =>
        obtain ⟨b, ob, f1, f2, f3, f4, f5⟩ := x
        have hb : b ≠ a' := fun w => I.me b f5 (by rw [w]; exact z)
        exact ⟨b, ob, f1, f2, by rw [upd_ne hb]; exact f3, f4, f5⟩
  · have g : ∀ {k : Nat} {d1}, (ρ.set i (.o d'))[k]? = some (.o d1) → ∃ d2, ρ[k]? = some (.o d2) := fun {k d1} h => by
      rcases get_set h with ⟨rfl, _, _⟩ | ⟨_, h⟩
      · exact ⟨d, e⟩
      · exact ⟨_, h⟩
    obtain ⟨_, e2⟩ := g e2
    obtain ⟨_, e3⟩ := g e3
    exact I.inj j k _ _ e2 e3 e4
  · rcases get_set e2 with ⟨rfl, _, z⟩ | ⟨_, e2⟩
    · cases z
    · rcases get_set e3 with ⟨rfl, _, z⟩ | ⟨_, e3⟩
      · cases z
      · exact I.one j k d1 d2 e2 e3
theorem In.turnM (hJ : JOk J) (I : In K J m σ ρ H0 H) (e : ρ[i]? = some (.m d)) (ha : σ[i]? = some (some (.ref a))) (r : OwR K H0 o' d') : In K J m σ (ρ.set i (.m d')) H0 (upd H a o') := by
  obtain ⟨a', o, e1, n, q, r0, z⟩ := I.sl i _ e
  have : a' = a := by rw [ha] at e1; injection e1 with e1; injection e1 with e1; injection e1 with e1; exact e1.symm
  subst this
  have hi : i < ρ.length := (List.getElem?_eq_some_iff.mp e).1
  refine ⟨⟨I.st.sh, I.sub.mut n, fun b ob h h0 => ?_, fun j => hJ.wr _ _ _ _ (I.st.J j) q r0.wr⟩, hJ.wr _ _ _ _ I.j q r0.wr, I.me, by simp [I.len], fun j sl ej => ?_, fun j k d1 d2 e2 e3 e4 => ?_, fun j k d1 d2 e2 e3 => ?_, fun g hg => ?_⟩
  case refine_5 =>
    obtain ⟨g1, g2, g3, g4, g5⟩ := I.gh g hg
    have hga : g.1 ≠ a' := fun w => I.me a' z (by rw [← w]; exact g3)
    refine ⟨g1, by rw [upd_ne hga]; exact g2, g3, fun j d' hj => ?_, g5⟩
    rcases get_set hj with ⟨rfl, hl, ee⟩ | ⟨c, hj⟩
    · cases ee
    · exact g4 j d' hj
  · obtain ⟨n1, o1, h1, x1⟩ := I.st.pr b ob h h0
    by_cases hb : b = a'
    · subst hb; exact ⟨n1, o', upd_same, .inr (.inl z)⟩
    · exact ⟨n1, o1, by rw [upd_ne hb]; exact h1, x1⟩
  · rcases get_set ej with ⟨rfl, hl, rfl⟩ | ⟨c, ej⟩
    · exact ⟨a', o', e1, n, upd_same, r, z⟩
    · have x := I.sl j sl ej
      cases sl with
      | e => trivial
      | s d => exact x
      | o d2 =>
        obtain ⟨b, ob, f1, f2, f3, f4, f5⟩ := x
        have hb : b ≠ a' := fun w => I.me a' z (by rw [← w]; exact f5)
        exact ⟨b, ob, f1, f2, by rw [upd_ne hb]; exact f3, f4, f5⟩
      | m d2 => exact absurd (I.one i j d d2 e ej) c
  · rcases get_set e2 with ⟨rfl, _, z⟩ | ⟨_, e2⟩
    · cases z
    · rcases get_set e3 with ⟨rfl, _, z⟩ | ⟨_, e3⟩
      · cases z
      · exact I.inj j k d1 d2 e2 e3 e4
  · have g : ∀ {k : Nat} {d1}, (ρ.set i (.m d'))[k]? = some (.m d1) → ∃ d2, ρ[k]? = some (.m d2) := fun {k d1} h => by
      rcases get_set h with ⟨rfl, _, _⟩ | ⟨_, h⟩
      · exact ⟨d, e⟩
      · exact ⟨_, h⟩
    obtain ⟨_, e2⟩ := g e2
    obtain ⟨_, e3⟩ := g e3
    exact I.one j k _ _ e2 e3
/-- an object is put among what is to stay, and taken out again -/
theorem In.ghost (I : In K J m σ ρ H0 H) (n0 : H0 a = none) (h : H a = some o) (he : m.He a = none) (ne : ∀ (i : Nat) d, ρ[i]? = some (.o d) → σ[i]? ≠ some (some (.ref a))) (w : Wr o) : In K J (m.gh a o) σ ρ H0 H :=
  ⟨I.st, I.j, I.me, I.len, fun i sl e => by
    have x := I.sl i sl e
    cases sl <;> exact x, I.inj, I.one, fun g hg => by
    rcases List.mem_cons.mp hg with rfl | hg
    · exact ⟨n0, h, he, ne, w⟩
    · exact I.gh g hg⟩
theorem In.unghost (I : In K J (m.gh a o) σ ρ H0 H) : In K J m σ ρ H0 H ∧ H0 a = none ∧ H a = some o ∧ m.He a = none ∧ (∀ (i : Nat) d, ρ[i]? = some (.o d) → σ[i]? ≠ some (some (.ref a))) ∧ Wr o :=
  ⟨⟨I.st, I.j, I.me, I.len, fun i sl e => by
    have x := I.sl i sl e
    cases sl <;> exact x, I.inj, I.one, fun g hg => I.gh g (List.mem_cons_of_mem _ hg)⟩, I.gh (a, o) List.mem_cons_self⟩
/-- .. an object of nobody's is turned meanwhile -/
theorem In.turnG (hJ : JOk J) (I : In K J m σ ρ H0 H) (n0 : H0 a = none) (h : H a = some o) (w : Wr o) (he : m.He a = none) (ne : ∀ (i : Nat) d, ρ[i]? = some (.o d) → σ[i]? ≠ some (some (.ref a))) (hg : ∀ g ∈ m.G, g.1 ≠ a) : In K J m σ ρ H0 (upd H a o') := by
  refine ⟨⟨I.st.sh, I.sub.mut n0, fun b ob q q0 => ?_, fun j => hJ.wr _ _ _ _ (I.st.J j) h w⟩, hJ.wr _ _ _ _ I.j h w, I.me, I.len, fun j sl ej => ?_, I.inj, I.one, fun g hgm => ?_⟩
  · obtain ⟨n1, o1, h1, x1⟩ := I.st.pr b ob q q0
    have hb : b ≠ a := ne_of_none q he
    exact ⟨n1, o1, by rw [upd_ne hb]; exact h1, x1⟩
  · have x := I.sl j sl ej
    cases sl with
    | e => trivial
    | s d => exact x
    | o d2 =>
      obtain ⟨b, ob, f1, f2, f3, f4, f5⟩ := x
      have hb : b ≠ a := fun z => ne j d2 ej (by rw [f1, z])
      exact ⟨b, ob, f1, f2, by rw [upd_ne hb]; exact f3, f4, f5⟩
    | m d2 =>
      obtain ⟨b, ob, f1, f2, f3, f4, f5⟩ := x
      have hb : b ≠ a := fun z => I.me b f5 (by rw [z]; exact he)
      exact ⟨b, ob, f1, f2, by rw [upd_ne hb]; exact f3, f4, f5⟩
  · obtain ⟨g1, g2, g3, g4, g5⟩ := I.gh g hgm
    exact ⟨g1, by rw [upd_ne (hg g hgm)]; exact g2, g3, g4, g5⟩
/-- behind a callee that turned nothing of ours -/
theorem In.called {H0' H' : Hp} (I : In K J m σ ρ H0 H) (S : Stp J none H0 H H0' H') : In K J m σ ρ H0' H' := by
  have kp : ∀ b ob, H b = some ob → H0 b = none → Wr ob → H0' b = none ∧ H' b = some ob := fun b ob q n w => by
    obtain ⟨n1, o1, h1, e1⟩ := S.pr b ob q n
    rcases e1 with rfl | e1 | ⟨ps, ps', rfl, _⟩
    · exact ⟨n1, h1⟩
    · cases e1
    · exact w.elim
  exact ⟨I.st.trans S (fun x hx => nomatch hx), S.J I.j, I.me, I.len, fun i sl e => (I.sl i sl e).keep S.sh kp, I.inj, I.one, fun g hg => by
    obtain ⟨g1, g2, g3, g4, g5⟩ := I.gh g hg
    obtain ⟨k1, k2⟩ := kp _ _ g2 g1 g5
    exact ⟨k1, k2, g3, g4, g5⟩⟩
/-- .. but an object of nobody's -/
theorem In.calledA {H0' H' : Hp} (I : In K J m σ ρ H0 H) (S : Stp J (some a) H0 H H0' H') (he : m.He a = none) (ne : ∀ (i : Nat) d, ρ[i]? = some (.o d) → σ[i]? ≠ some (some (.ref a))) (hg : ∀ g ∈ m.G, g.1 ≠ a) : In K J m σ ρ H0' H' := by
  have kp : ∀ b ob, b ≠ a → H b = some ob → H0 b = none → Wr ob → H0' b = none ∧ H' b = some ob := fun b ob hb q n w => by
    obtain ⟨n1, o1, h1, e1⟩ := S.pr b ob q n
    rcases e1 with rfl | e1 | ⟨ps, ps', rfl, _⟩
    · exact ⟨n1, h1⟩
    · cases e1; exact absurd rfl hb
    · exact w.elim
  refine ⟨I.st.trans S (fun x hx => by cases hx; exact .inr he), S.J I.j, I.me, I.len, fun i sl e => ?_, I.inj, I.one, fun g hgm => ?_⟩
  · have x := I.sl i sl e
    cases sl with
    | e => trivial
    | s d => obtain ⟨u, e1, r⟩ := x; exact ⟨u, e1, r.mono S.sh⟩
    | o d =>
      obtain ⟨b, ob, e1, n, q, r, z⟩ := x
      obtain ⟨k1, k2⟩ := kp b ob (fun w => ne i d e (by rw [e1, w])) q n r.wr
      exact ⟨b, ob, e1, k1, k2, r.mono S.sh, z⟩
    | m d =>
      obtain ⟨b, ob, e1, n, q, r, z⟩ := x
      obtain ⟨k1, k2⟩ := kp b ob (fun w => I.me b z (by rw [w]; exact he)) q n r.wr
      exact ⟨b, ob, e1, k1, k2, r.mono S.sh, z⟩
  · obtain ⟨g1, g2, g3, g4, g5⟩ := I.gh g hgm
    obtain ⟨k1, k2⟩ := kp _ _ (hg g hgm) g2 g1 g5
    exact ⟨k1, k2, g3, g4, g5⟩
/-- what stands at an address of our own -/
def OwnAt (K : PySem.W.Frag) (H0 H : Hp) (a : Addr) (d : D) : Prop := H0 a = none ∧ ∃ o, H a = some o ∧ OwR K H0 o d
/-- .. but our own object in slot i -/
theorem In.calledO {H0' H' : Hp} (I : In K J m σ ρ H0 H) (e : ρ[i]? = some (.o d)) (ha : σ[i]? = some (some (.ref a))) (S : Stp J (some a) H0 H H0' H') (ow : OwnAt K H0' H' a d') : In K J m σ (ρ.set i (.o d')) H0' H' := by
  obtain ⟨a', o, e1, n, q, r0, z⟩ := I.sl i _ e
  have : a' = a := by rw [ha] at e1; injection e1 with e1; injection e1 with e1; injection e1 with e1; exact e1.symm
  subst this
  have hi : i < ρ.length := (List.getElem?_eq_some_iff.mp e).1
  have I1 : In K J m σ (ρ.set i .e) H0 H := I.set_e
  have I2 := I1.calledA S z (fun j d1 hj w => by
    rcases get_set hj with ⟨rfl, _, ee⟩ | ⟨c, hj⟩
    · cases ee
    · exact c (I.inj i j _ _ e hj (by rw [e1, w]))) (fun g hg w => (I.gh g hg).2.2.2.1 i d e (by rw [e1, w]))
  obtain ⟨n0, o', h', r'⟩ := ow
  refine ⟨I2.st, I2.j, I2.me, by simp [I.len], fun j sl ej => ?_, fun j k d1 d2 e2 e3 e4 => ?_, fun j k d1 d2 e2 e3 => ?_, fun g hg => ?_⟩
  · rcases get_set ej with ⟨rfl, hl, rfl⟩ | ⟨c, ej⟩
    · exact ⟨a', o', e1, n0, h', r', z⟩
    · exact I2.sl j sl (by rw [List.getElem?_set_ne c]; exact ej)
  · have g : ∀ {k : Nat} {d1}, (ρ.set i (.o d'))[k]? = some (.o d1) → ∃ d2, ρ[k]? = some (.o d2) := fun {k d1} h => by
      rcases get_set h with ⟨rfl, _, _⟩ | ⟨_, h⟩
      · exact ⟨d, e⟩
      · exact ⟨_, h⟩
    obtain ⟨_, e2⟩ := g e2
    obtain ⟨_, e3⟩ := g e3
    exact I.inj j k _ _ e2 e3 e4
  · rcases get_set e2 with ⟨rfl, _, z⟩ | ⟨_, e2⟩
    · cases z
    · rcases get_set e3 with ⟨rfl, _, z⟩ | ⟨_, e3⟩
      · cases z
      · exact I.one j k d1 d2 e2 e3
  · obtain ⟨g1, g2, g3, g4, g5⟩ := I2.gh g hg
    refine ⟨g1, g2, g3, fun j d1 hj => ?_, g5⟩
    rcases get_set hj with ⟨rfl, hl, ee⟩ | ⟨c, hj⟩
    · exact (I.gh g hg).2.2.2.1 i d e
    · exact g4 j d1 (by rw [List.getElem?_set_ne c]; exact hj)
theorem In.calledM {H0' H' : Hp} (I : In K J m σ ρ H0 H) (e : ρ[i]? = some (.m d)) (ha : σ[i]? = some (some (.ref a))) (S : Stp J (some a) H0 H H0' H') (ow : OwnAt K H0' H' a d') : In K J m σ (ρ.set i (.m d')) H0' H' := by
  obtain ⟨a', o, e1, n, q, r0, z⟩ := I.sl i _ e
  have : a' = a := by rw [ha] at e1; injection e1 with e1; injection e1 with e1; injection e1 with e1; exact e1.symm
  subst this
  have kp : ∀ b ob, b ≠ a' → H b = some ob → H0 b = none → Wr ob → H0' b = none ∧ H' b = some ob := fun b ob hb q n w => by
    obtain ⟨n1, o1, h1, e1⟩ := S.pr b ob q n
    rcases e1 with rfl | e1 | ⟨ps, ps', rfl, _⟩
    · exact ⟨n1, h1⟩
    · cases e1; exact absurd rfl hb
    · exact w.elim
  obtain ⟨n0, o', h', r'⟩ := ow
  refine ⟨I.st.trans S (fun x hx => by cases hx; exact .inl z), S.J I.j, I.me, by simp [I.len], fun j sl ej => ?_, fun j k d1 d2 e2 e3 e4 => ?_, fun j k d1 d2 e2 e3 => ?_, fun g hg => ?_⟩
  · rcases get_set ej with ⟨rfl, hl, rfl⟩ | ⟨c, ej⟩
    · exact ⟨a', o', e1, n0, h', r', z⟩
    · have x := I.sl j sl ej
      cases sl with
      | e => trivial
      | s d => obtain ⟨u, e1, r⟩ := x; exact ⟨u, e1, r.mono S.sh⟩
      | o d2 =>
        obtain ⟨b, ob, f1, f2, f3, f4, f5⟩ := x
        obtain ⟨k1, k2⟩ := kp b ob (fun w => I.me a' z (by rw [← w]; exact f5)) f3 f2 f4.wr
        exact ⟨b, ob, f1, k1, k2, f4.mono S.sh, f5⟩
      | m d2 => exact absurd (I.one i j _ _ e ej) c
  · rcases get_set e2 with ⟨rfl, _, z⟩ | ⟨_, e2⟩
    · cases z
    · rcases get_set e3 with ⟨rfl, _, z⟩ | ⟨_, e3⟩
      · cases z
      · exact I.inj j k d1 d2 e2 e3 e4
  · have g : ∀ {k : Nat} {d1}, (ρ.set i (.m d'))[k]? = some (.m d1) → ∃ d2, ρ[k]? = some (.m d2) := fun {k d1} h => by
      rcases get_set h with ⟨rfl, _, _⟩ | ⟨_, h⟩
      · exact ⟨d, e⟩
      · exact ⟨_, h⟩
    obtain ⟨_, e2⟩ := g e2
    obtain ⟨_, e3⟩ := g e3
    exact I.one j k _ _ e2 e3
  · obtain ⟨g1, g2, g3, g4, g5⟩ := I.gh g hg
    obtain ⟨k1, k2⟩ := kp _ _ (fun w => I.me a' z (by rw [← w]; exact g3)) g2 g1 g5
    refine ⟨k1, k2, g3, fun j d1 hj => ?_, g5⟩
    rcases get_set hj with ⟨rfl, hl, ee⟩ | ⟨c, hj⟩
    · cases ee
    · exact g4 j d1 hj
end
end DV

set_option Elab.async false
set_option linter.all false
set_option maxRecDepth 100000
set_option maxHeartbeats 4000000
/-! DV: readings over data. -/
namespace DV
open PySem L2

/-- an exception: its class, its fields -/
structure DX where
  C : Addr
  fs : List (Str × D)
def XRep (K : PySem.W.Frag) (H0 H : Hp) (c : Value) (dd : Option Addr) (x : DX) : Prop :=
  c = .ref x.C ∧ ((x.fs = [] ∧ dd = none) ∨ ∃ (a : Addr) (fvs : List (Str × V)), dd = some a ∧ H a = some (.xd fvs) ∧ fvs.map (·.1) = x.fs.map (·.1) ∧ Reps K H0 (fvs.map (·.2)) (x.fs.map (·.2)))
abbrev XP := DX → En → Prop
/-- what an expression does to data -/
abbrev DE := En → (D → En → Prop) → XP → Prop
abbrev DA := En → (List D → En → Prop) → XP → Prop
abbrev DT := En → (Bool → En → Prop) → XP → Prop
/-- the place of a lift: the written part, what is kept, the wish about exceptions -/
structure Li where
  K : PySem.W.Frag
  J : Hp → Prop
  ok : JOk J
  W : WX
/-- shared, or an object of our own -/
def Rep1 (K : PySem.W.Frag) (H0 H : Hp) (v : V) (d : D) : Prop := Rep K H0 v d ∨ ∃ a o, v = .ref a ∧ H a = some o ∧ OwR K H0 o d
abbrev XW (L : Li) (m : Fm) (σ : St) (R : XP) : Prop := ∀ x ρ' c dd H0' H', R x ρ' → In L.K L.J m σ ρ' H0' H' → XRep L.K H0' H' c dd x → L.W c dd σ H'
def lE (L : Li) (A : DE) : TE := fun σ H Q => ∃ (m : Fm) (H0 : Hp) (ρ : En) (P : D → En → Prop) (R : XP), In L.K L.J m σ ρ H0 H ∧ A ρ P R ∧
  (∀ d ρ' v H0' H', P d ρ' → Ex H0 H0' → In L.K L.J m σ ρ' H0' H' → Rep L.K H0' v d → Q v H') ∧ XW L m σ R
def lF (L : Li) (A : DE) : TE := fun σ H Q => ∃ (m : Fm) (H0 : Hp) (ρ : En) (P : D → En → Prop) (R : XP), In L.K L.J m σ ρ H0 H ∧ A ρ P R ∧
  (∀ d ρ' a H0' H', P d ρ' → Ex H0 H0' → In L.K L.J m σ ρ' H0' H' → Fresh L.K m σ ρ' H0' H' a d → Q (.ref a) H') ∧ XW L m σ R
def lM (L : Li) (A : DE) : TE := fun σ H Q => ∃ (m : Fm) (H0 : Hp) (ρ : En) (P : D → En → Prop) (R : XP), In L.K L.J m σ ρ H0 H ∧ A ρ P R ∧
  (∀ d ρ' v H0' H', P d ρ' → Ex H0 H0' → In L.K L.J m σ ρ' H0' H' → Rep1 L.K H0' H' v d → Q v H') ∧ XW L m σ R
def lA (L : Li) (A : DA) : TA := fun σ H Q => ∃ (m : Fm) (H0 : Hp) (ρ : En) (P : List D → En → Prop) (R : XP), In L.K L.J m σ ρ H0 H ∧ A ρ P R ∧
  (∀ ds ρ' vs H0' H', P ds ρ' → Ex H0 H0' → In L.K L.J m σ ρ' H0' H' → Reps L.K H0' vs ds → Q vs H') ∧ XW L m σ R
def lT (L : Li) (A : DT) : TT := fun σ H Q => ∃ (m : Fm) (H0 : Hp) (ρ : En) (P : Bool → En → Prop) (R : XP), In L.K L.J m σ ρ H0 H ∧ A ρ P R ∧
  (∀ b ρ' H0' H', P b ρ' → Ex H0 H0' → In L.K L.J m σ ρ' H0' H' → Q b H') ∧ XW L m σ R

section
variable {X : Cx} {L : Li} {e a b : Expr} {A B : DE} {T U : DT} {pos : Pos}
theorem PE.weak {t t' : TE} (h : PE X e t) (w : ∀ σ H Q, t' σ H Q → t σ H Q) : PE X e t' := ⟨fun pins s σ H Q I q => h.run pins s σ H Q I (w _ _ _ q)⟩
theorem PT.weak {t t' : TT} (h : PT X e t) (w : ∀ σ H Q, t' σ H Q → t σ H Q) : PT X e t' := ⟨fun pins s σ H Q I q => h.run pins s σ H Q I (w _ _ _ q)⟩
theorem PW.weak {t t' : TT} (h : PW X e t) (w : ∀ σ H Q, t' σ H Q → t σ H Q) : PW X e t' := ⟨fun wh pins s σ H Q I q => h.run wh pins s σ H Q I (w _ _ _ q)⟩
theorem PA.weak {es : List Expr} {t t' : TA} (h : PA X es t) (w : ∀ σ H Q, t' σ H Q → t σ H Q) : PA X es t' := ⟨fun ps pins s σ H Q I q => h.run ps pins s σ H Q I (w _ _ _ q)⟩
theorem PS.weak {st : Stmt} {t t' : TS} (h : PS X st t) (w : ∀ D σ H, t' D σ H → t D σ H) : PS X st t' := ⟨fun pins s σ H D I q => h.run pins s σ H D I (w _ _ _ q)⟩
theorem PSs.weak {st : List Stmt} {t t' : TS} (h : PSs X st t) (w : ∀ D σ H, t' D σ H → t D σ H) : PSs X st t' := ⟨fun pins s σ H D I q => h.run pins s σ H D I (w _ _ _ q)⟩
theorem Rep1.of {K : PySem.W.Frag} {H0 H : Hp} {v : V} {d : D} (h : Rep K H0 v d) : Rep1 K H0 H v d := .inl h
/-- a fresh object may be shared; what is shared may be looked at -/
theorem ed_f (h : PE X e (lF L A)) : PE X e (lE L A) := PE.weak h fun σ H Q ⟨m, H0, ρ, P, R, I, q, k, x⟩ =>
  ⟨m, H0, ρ, P, R, I, q, fun d ρ' a H0' H' p ex I' f => by
    obtain ⟨H2, e2, I2, r⟩ := f.shared I'
    exact k d ρ' _ H2 H' p (ex.trans e2) I2 r, x⟩
theorem ed_m (h : PE X e (lE L A)) : PE X e (lM L A) := PE.weak h fun σ H Q ⟨m, H0, ρ, P, R, I, q, k, x⟩ =>
  ⟨m, H0, ρ, P, R, I, q, fun d ρ' v H0' H' p ex I' f => k d ρ' v H0' H' p ex I' (.inl f), x⟩
theorem Rep1.mono {K : PySem.W.Frag} {H0 H H0' H' : Hp} {v : V} {d : D} (h : Rep1 K H0 H v d) (e : Ex H0 H0') (e' : Ex H H') : Rep1 K H0' H' v d := by
  rcases h with h | ⟨a, o, e1, h, r⟩
  · exact .inl (h.mono e)
  · exact .inr ⟨a, o, e1, e' _ _ h, r.mono e⟩
theorem Rep1.lst_inv {K : PySem.W.Frag} {H0 H : Hp} {v : V} {es : List D} (h : Rep1 K H0 H v (.lst es)) (e : Ex H0 H) : ∃ a ws, v = .ref a ∧ H a = some (.lst ws) ∧ Reps K H0 ws es := by
  rcases h with h | ⟨a, o, e1, h, r⟩
  · obtain ⟨a, ws, e1, h1, r⟩ := h.lst_inv; exact ⟨a, ws, e1, e _ _ h1, r⟩
  · obtain ⟨vs, rfl, r⟩ := r.lst_inv; exact ⟨a, vs, e1, h, r⟩
theorem Rep1.dic_inv {K : PySem.W.Frag} {H0 H : Hp} {v : V} {kds : List (Key × D)} (h : Rep1 K H0 H v (.dic kds)) (e : Ex H0 H) : ∃ a kvs, v = .ref a ∧ H a = some (.dK kvs) ∧ kvs.map (·.1) = kds.map (·.1) ∧ Reps K H0 (kvs.map (·.2)) (kds.map (·.2)) := by
  rcases h with h | ⟨a, o, e1, h, r⟩
  · obtain ⟨a, kvs, e1, h1, r⟩ := h.dic_inv; exact ⟨a, kvs, e1, e _ _ h1, r⟩
  · obtain ⟨vs, rfl, r⟩ := r.dic_inv; exact ⟨a, vs, e1, h, r⟩
theorem Rep1.obj_inv {K : PySem.W.Frag} {H0 H : Hp} {v : V} {C : Addr} {fds : List (Str × D)} (h : Rep1 K H0 H v (.obj C fds)) (e : Ex H0 H) : ∃ a dx fvs, v = .ref a ∧ H a = some (.ins C dx fvs) ∧ fvs.map (·.1) = fds.map (·.1) ∧ Reps K H0 (fvs.map (·.2)) (fds.map (·.2)) := by
  rcases h with h | ⟨a, o, e1, h, r⟩
  · obtain ⟨a, dx, kvs, e1, h1, r⟩ := h.obj_inv; exact ⟨a, dx, kvs, e1, e _ _ h1, r⟩
  · obtain ⟨dx, vs, eo, r1, r2⟩ := r.obj_inv
    rw [eo] at h
    exact ⟨a, dx, vs, e1, h, r1, r2⟩
theorem Rep1.tup_inv {K : PySem.W.Frag} {H0 H : Hp} {v : V} {es : List D} (h : Rep1 K H0 H v (.tup es)) : Rep K H0 v (.tup es) := by
  rcases h with h | ⟨a, o, e1, h, r⟩
  · exact h
  · cases o <;> exact (show False from r).elim
theorem Rep1.flat {K : PySem.W.Frag} {H0 H : Hp} {v : V} {d : D} (h : Rep1 K H0 H v d) (hd : ∀ o, ¬ OwR K H0 o d) : Rep K H0 v d := by
  rcases h with h | ⟨a, o, e1, h, r⟩
  · exact h
  · exact (hd o r).elim

/-! ### names, constants -/
def eV (i : Nat) : DE := fun ρ P _ => ∃ d, ρ[i]? = some (.s d) ∧ P d ρ
/-- looked at: shared, or our own -/
def eO (i : Nat) : DE := fun ρ P _ => ∃ d, (ρ[i]? = some (.s d) ∨ ρ[i]? = some (.o d) ∨ ρ[i]? = some (.m d)) ∧ P d ρ
def eC (d : D) : DE := fun ρ P _ => P d ρ
theorem ed_var {i : Nat} (h : PE X e (tVar i)) : PE X e (lE L (eV i)) := PE.weak h fun σ H Q ⟨m, H0, ρ, P, R, I, ⟨d, e1, p⟩, k, x⟩ => by
  obtain ⟨v, e2, r⟩ := I.sl i _ e1
  exact ⟨v, e2, k d ρ v H0 H p (Ex.refl _) I r⟩
theorem em_var {i : Nat} (h : PE X e (tVar i)) : PE X e (lM L (eO i)) := PE.weak h fun σ H Q ⟨m, H0, ρ, P, R, I, ⟨d, e1, p⟩, k, x⟩ => by
  rcases e1 with e1 | e1 | e1
  · obtain ⟨v, e2, r⟩ := I.sl i _ e1
    exact ⟨v, e2, k d ρ v H0 H p (Ex.refl _) I (.inl r)⟩
  · obtain ⟨a, o, e2, n, h, r, z⟩ := I.sl i _ e1
    exact ⟨_, e2, k d ρ _ H0 H p (Ex.refl _) I (.inr ⟨a, o, rfl, h, r⟩)⟩
  · obtain ⟨a, o, e2, n, h, r, z⟩ := I.sl i _ e1
    exact ⟨_, e2, k d ρ _ H0 H p (Ex.refl _) I (.inr ⟨a, o, rfl, h, r⟩)⟩
theorem ed_c {v : V} {d : D} (h : PE X e (tC v)) (r : ∀ K H, Rep K H v d) : PE X e (lE L (eC d)) := PE.weak h fun σ H Q ⟨m, H0, ρ, P, R, I, p, k, x⟩ => k d ρ v H0 H p (Ex.refl _) I (r _ _)
theorem ed_int {i : Int} {j p} : PE X (.Constant (.int i) j p) (lE L (eC (.int i))) := ed_c pe_int fun _ _ => .int
theorem ed_bl {i : Bool} {j p} : PE X (.Constant (.bool i) j p) (lE L (eC (.bl i))) := ed_c pe_bl fun _ _ => .bl
theorem ed_non {j p} : PE X (.Constant .none j p) (lE L (eC .non)) := ed_c pe_non fun _ _ => .non
theorem ed_str {i : Str} {j p} : PE X (.Constant (.str i) j p) (lE L (eC (.str i))) := ed_c pe_str fun _ _ => .str

/-! ### two operands -/
def eBin (f : D → D → (D → Prop) → Prop) (A B : DE) : DE := fun ρ P R => A ρ (fun x ρ1 => B ρ1 (fun y ρ2 => f x y fun z => P z ρ2) R) R
/-- what an operator by values does to data -/
def OpD (K : PySem.W.Frag) (r : R2) (f : D → D → (D → Prop) → Prop) : Prop :=
  ∀ {J : Hp → Prop} (hJ : JOk J) {m : Fm} {σ : St} {ρ : En} {H0 H : Hp} {vx vy : V} {x y : D} {Po : D → Prop} {Q : VK}, In K J m σ ρ H0 H → Rep K H0 vx x → Rep K H0 vy y → f x y Po →
    (∀ z v H0' H', Po z → Ex H0 H0' → In K J m σ ρ H0' H' → Rep K H0' v z → Q v H') → r vx vy H Q
theorem OpD.or {K : PySem.W.Frag} {r r' : R2} {f g : D → D → (D → Prop) → Prop} (h : OpD K r f) (h' : OpD K r' g) : OpD K (fun x y H Q => r x y H Q ∨ r' x y H Q) (fun x y P => f x y P ∨ g x y P) := by
  intro J hJ m σ ρ H0 H vx vy x y Po Q I rx ry q k
  rcases q with q | q
  · exact .inl (h hJ I rx ry q k)
  · exact .inr (h' hJ I rx ry q k)
theorem OpD.imp {K : PySem.W.Frag} {r : R2} {f g : D → D → (D → Prop) → Prop} (h : OpD K r f) (w : ∀ x y P, g x y P → f x y P) : OpD K r g := by
  intro J hJ m σ ρ H0 H vx vy x y Po Q I rx ry q k
  exact h hJ I rx ry (w _ _ _ q) k
theorem l_bin {r : R2} {f : D → D → (D → Prop) → Prop} (hd : OpD L.K r f) {σ : St} {H : Hp} {Q : VK} (h : lE L (eBin f A B) σ H Q) : tOp r (lE L A) (lE L B) σ H Q := by
  obtain ⟨m, H0, ρ, P, R, I, q, k, x⟩ := h
  refine ⟨m, H0, ρ, _, R, I, q, fun dx ρ1 vx H1 H1' q1 ex1 I1 r1 => ?_, x⟩
  refine ⟨m, H1, ρ1, _, R, I1, q1, fun dy ρ2 vy H2 H2' q2 ex2 I2 r2 => ?_, x⟩
  exact hd L.ok I2 (r1.mono ex2) r2 q2 fun z v H3 H3' pz ex3 I3 r3 => k z ρ2 v H3 H3' pz ((ex1.trans ex2).trans ex3) I3 r3
theorem ed_op {op : Operator} {r : R2} {f : D → D → (D → Prop) → Prop} (ho : OpR X (binaryOp op) r) (hd : OpD L.K r f) (ha : PE X a (lE L A)) (hb : PE X b (lE L B)) : PE X (.BinOp a op b pos) (lE L (eBin f A B)) :=
  PE.weak (pe_op ho ha hb) fun _ _ _ => l_bin hd
theorem ed_cmp {op : CmpOp} {r : R2} {f : D → D → (D → Prop) → Prop} (ho : OpR X (compareOp op) r) (hd : OpD L.K r f) (ha : PE X a (lE L A)) (hb : PE X b (lE L B)) (hm : behindInMarks op b = false) : PE X (.Compare a [op] [b] pos) (lE L (eBin f A B)) :=
  PE.weak (pe_cmpR ho ha hb hm) fun _ _ _ => l_bin hd
/-- the right one looked at -/
def OpM (K : PySem.W.Frag) (r : R2) (f : D → D → (D → Prop) → Prop) : Prop :=
  ∀ {J : Hp → Prop} (hJ : JOk J) {m : Fm} {σ : St} {ρ : En} {H0 H : Hp} {vx vy : V} {x y : D} {Po : D → Prop} {Q : VK}, In K J m σ ρ H0 H → Rep K H0 vx x → Rep1 K H0 H vy y → f x y Po →
    (∀ z v H0' H', Po z → Ex H0 H0' → In K J m σ ρ H0' H' → Rep K H0' v z → Q v H') → r vx vy H Q
theorem l_binM {r : R2} {f : D → D → (D → Prop) → Prop} (hd : OpM L.K r f) {σ : St} {H : Hp} {Q : VK} (h : lE L (eBin f A B) σ H Q) : tOp r (lE L A) (lM L B) σ H Q := by
  obtain ⟨m, H0, ρ, P, R, I, q, k, x⟩ := h
  refine ⟨m, H0, ρ, _, R, I, q, fun dx ρ1 vx H1 H1' q1 ex1 I1 r1 => ?_, x⟩
  refine ⟨m, H1, ρ1, _, R, I1, q1, fun dy ρ2 vy H2 H2' q2 ex2 I2 r2 => ?_, x⟩
  exact hd L.ok I2 (r1.mono ex2) r2 q2 fun z v H3 H3' pz ex3 I3 r3 => k z ρ2 v H3 H3' pz ((ex1.trans ex2).trans ex3) I3 r3
theorem ed_cmpM {op : CmpOp} {r : R2} {f : D → D → (D → Prop) → Prop} (ho : OpR X (compareOp op) r) (hd : OpM L.K r f) (ha : PE X a (lE L A)) (hb : PE X b (lM L B)) (hm : behindInMarks op b = false) : PE X (.Compare a [op] [b] pos) (lE L (eBin f A B)) :=
  PE.weak (pe_cmpR ho ha hb hm) fun _ _ _ => l_binM hd
/-- a value known by itself -/
theorem OpD.flat {K : PySem.W.Frag} {r : R2} {f : D → D → (D → Prop) → Prop} (h : ∀ {x y : D} {vx vy : V} {K H0 H} {Po : D → Prop} {Q : VK}, Rep K H0 vx x → Rep K H0 vy y → f x y Po → (∀ z v, Po z → (∀ K H, Rep K H v z) → Q v H) → r vx vy H Q) : OpD K r f :=
  by
  intro J hJ m σ ρ H0 H vx vy x y Po Q I rx ry q k
  exact h rx ry q fun z v pz hr => k z v _ _ pz (Ex.refl _) I (hr _ _)
def dI (g : Int → Int → D) (C : Int → Int → Prop) : D → D → (D → Prop) → Prop
  | .int i, .int j, P => C i j ∧ P (g i j)
  | _, _, _ => False
theorem dI_inv {g C x y P} (h : dI g C x y P) : ∃ i j, x = .int i ∧ y = .int j ∧ C i j ∧ P (g i j) := by
  unfold dI at h
  split at h
  · exact ⟨_, _, rfl, rfl, h⟩
  · exact h.elim
theorem od_I {K : PySem.W.Frag} {C : Int → Int → Prop} {g : Int → Int → Int} : OpD K (rI C fun i j => .int (g i j)) (dI (fun i j => .int (g i j)) C) := OpD.flat fun rx ry q k => by
  obtain ⟨i, j, rfl, rfl, c, p⟩ := dI_inv q
  exact ⟨i, j, rx.int_inv, ry.int_inv, c, k _ _ p fun _ _ => .int⟩
theorem od_I0 {K : PySem.W.Frag} {g : Int → Int → Int} : OpD K (rI0 fun i j => .int (g i j)) (dI (fun i j => .int (g i j)) fun _ _ => True) := OpD.flat fun rx ry q k => by
  obtain ⟨i, j, rfl, rfl, c, p⟩ := dI_inv q
  exact ⟨i, j, rx.int_inv, ry.int_inv, k _ _ p fun _ _ => .int⟩
theorem od_B0 {K : PySem.W.Frag} {g : Int → Int → Bool} : OpD K (rI0 fun i j => .bl (g i j)) (dI (fun i j => .bl (g i j)) fun _ _ => True) := OpD.flat fun rx ry q k => by
  obtain ⟨i, j, rfl, rfl, c, p⟩ := dI_inv q
  exact ⟨i, j, rx.int_inv, ry.int_inv, k _ _ p fun _ _ => .bl⟩
/-- + -/
def dAdd : D → D → (D → Prop) → Prop
  | .int i, .int j, P => P (.int (i + j))
  | .str i, .str j, P => i.length + j.length ≤ sizeLine ∧ P (.str (i ++ j))
  | .lst i, .lst j, P => i.length + j.length ≤ sizeLine ∧ P (.lst (i ++ j))
  | .tup i, .tup j, P => i.length + j.length ≤ sizeLine ∧ P (.tup (i ++ j))
  | _, _, _ => False
def rAddD (K : PySem.W.Frag) : R2 := fun x y H Q => (∃ i j, x = .int i ∧ y = .int j ∧ Q (.int (i + j)) H) ∨ (∃ i j, x = .str i ∧ y = .str j ∧ i.length + j.length ≤ sizeLine ∧ Q (.str (i ++ j)) H) ∨ rCat x y H Q ∨ rCatA K x y H Q
theorem op_addD : OpR X (binaryOp .Add) (rAddD X.K) := OpR.or op_add (OpR.or op_add_str (OpR.or op_cat op_catA))
theorem od_add {K : PySem.W.Frag} : OpD K (rAddD K) dAdd := by
  intro J hJ m σ ρ H0 H vx vy x y Po Q I rx ry q k
  unfold dAdd at q
  split at q
  · exact .inl ⟨_, _, rx.int_inv, ry.int_inv, k _ _ _ _ q (Ex.refl _) I .int⟩
  · exact .inr (.inl ⟨_, _, rx.str_inv, ry.str_inv, q.1, k _ _ _ _ q.2 (Ex.refl _) I .str⟩)
  · obtain ⟨a, ws, rfl, ha, r1⟩ := rx.lst_inv
    obtain ⟨b, zs, rfl, hb, r2⟩ := ry.lst_inv
    refine .inr (.inr (.inl ⟨a, b, ws, zs, rfl, rfl, I.sub _ _ ha, I.sub _ _ hb, by rw [r1.length, r2.length]; exact q.1, fun p hp => ?_⟩))
    exact k _ _ _ _ q.2 (Ex.new (I.free hp)) (I.alloc hJ hp) (.lst upd_same ((r1.append r2).mono (Ex.new (I.free hp))))
  · obtain ⟨a, ws, rfl, ha, r1⟩ := rx.tup_inv
    obtain ⟨b, zs, rfl, hb, r2⟩ := ry.tup_inv
    refine .inr (.inr (.inr ⟨a, b, ws, zs, rfl, rfl, ex_t I.sub ha, ex_t I.sub hb, by rw [r1.length, r2.length]; exact q.1, fun e => ?_, fun _ e => ?_, fun _ _ p hp => ?_⟩))
    · subst e
      obtain rfl := r1.nil_inv'
      exact k _ _ _ _ q.2 (Ex.refl _) I (.tup hb r2)
    · subst e
      obtain rfl := r2.nil_inv'
      exact k _ _ _ _ q.2 (Ex.refl _) I (by rw [List.append_nil]; exact .tup ha r1)
    · exact k _ _ _ _ q.2 (Ex.new (I.free hp)) (I.alloc hJ hp) (.tup (SqT.of upd_same) ((r1.append r2).mono (Ex.new (I.free hp))))
  · exact q.elim
theorem ed_add (ha : PE X a (lE L A)) (hb : PE X b (lE L B)) (hK : L.K = X.K := by rfl) : PE X (.BinOp a .Add b pos) (lE L (eBin dAdd A B)) := ed_op op_addD (by rw [← hK]; exact od_add) ha hb
theorem ed_sub (ha : PE X a (lE L A)) (hb : PE X b (lE L B)) : PE X (.BinOp a .Sub b pos) (lE L (eBin (dI (fun i j => .int (i - j)) fun _ _ => True) A B)) := ed_op op_sub od_I0 ha hb
def CMul2 (i j : Int) : Prop := CMul i j ∨ CMulW i j
theorem op_mul2 : OpR X (binaryOp .Mult) (rI CMul2 fun i j => .int (i * j)) := by
  intro pins s σ H x y v u Q I rx ry h
  obtain ⟨i, j, e1, e2, c, q⟩ := h
  rcases c with c | c
  · exact op_mul pins s σ H x y v u Q I rx ry ⟨i, j, e1, e2, c, q⟩
  · exact op_mulW pins s σ H x y v u Q I rx ry ⟨i, j, e1, e2, c, q⟩
def dMul : D → D → (D → Prop) → Prop
  | .int i, .int j, P => CMul2 i j ∧ P (.int (i * j))
  | .lst i, .int j, P => -(2 ^ 63) ≤ j ∧ j < 2 ^ 63 ∧ i.length * j.toNat ≤ sizeLine ∧ P (.lst (List.replicate j.toNat i).flatten)
  | _, _, _ => False
theorem Reps.rep {K : PySem.W.Frag} {H : Hp} {vs : List V} {ds : List D} (h : Reps K H vs ds) : ∀ n : Nat, Reps K H (List.replicate n vs).flatten (List.replicate n ds).flatten
  | 0 => .nil
  | n + 1 => by rw [List.replicate_succ, List.replicate_succ, List.flatten_cons, List.flatten_cons]; exact h.append (Reps.rep h n)
def rMulD : R2 := fun x y H Q => rI CMul2 (fun i j => .int (i * j)) x y H Q ∨ rRep x y H Q
theorem op_mulD : OpR X (binaryOp .Mult) rMulD := OpR.or op_mul2 op_rep
theorem od_mul {K : PySem.W.Frag} : OpD K rMulD dMul := by
  intro J hJ m σ ρ H0 H vx vy x y Po Q I rx ry q k
  unfold dMul at q
  split at q
  · exact .inl ⟨_, _, rx.int_inv, ry.int_inv, q.1, k _ _ _ _ q.2 (Ex.refl _) I .int⟩
  · obtain ⟨a, ws, rfl, ha, r1⟩ := rx.lst_inv
    refine .inr ⟨a, _, ws, rfl, ry.int_inv, I.sub _ _ ha, q.1, q.2.1, by rw [r1.length]; exact q.2.2.1, fun p hp => ?_⟩
    exact k _ _ _ _ q.2.2.2 (Ex.new (I.free hp)) (I.alloc hJ hp) (.lst upd_same ((r1.rep _).mono (Ex.new (I.free hp))))
  · exact q.elim
theorem ed_mul (ha : PE X a (lE L A)) (hb : PE X b (lE L B)) : PE X (.BinOp a .Mult b pos) (lE L (eBin dMul A B)) := ed_op op_mulD od_mul ha hb
theorem ed_fdiv (ha : PE X a (lE L A)) (hb : PE X b (lE L B)) : PE X (.BinOp a .FloorDiv b pos) (lE L (eBin (dI (fun i j => .int (i / j)) CDivW) A B)) := ed_op op_fdivW od_I ha hb
theorem ed_mod (ha : PE X a (lE L A)) (hb : PE X b (lE L B)) : PE X (.BinOp a .Mod b pos) (lE L (eBin (dI (fun i j => .int (i % j)) fun _ j => 0 < j) A B)) := ed_op op_mod od_I ha hb
theorem ed_pow (ha : PE X a (lE L A)) (hb : PE X b (lE L B)) : PE X (.BinOp a .Pow b pos) (lE L (eBin (dI (fun i j => .int (i ^ j.toNat)) CPow) A B)) := ed_op op_pow od_I ha hb
theorem ed_lt (ha : PE X a (lE L A)) (hb : PE X b (lE L B)) : PE X (.Compare a [.Lt] [b] pos) (lE L (eBin (dI (fun i j => .bl (decide (i < j))) fun _ _ => True) A B)) := ed_cmp op_lt od_B0 ha hb (nomark _)
theorem ed_le (ha : PE X a (lE L A)) (hb : PE X b (lE L B)) : PE X (.Compare a [.LtE] [b] pos) (lE L (eBin (dI (fun i j => .bl (decide (i ≤ j))) fun _ _ => True) A B)) := ed_cmp op_le od_B0 ha hb (nomark _)
theorem ed_gt (ha : PE X a (lE L A)) (hb : PE X b (lE L B)) : PE X (.Compare a [.Gt] [b] pos) (lE L (eBin (dI (fun i j => .bl (decide (j < i))) fun _ _ => True) A B)) := ed_cmp op_gt od_B0 ha hb (nomark _)
theorem ed_ge (ha : PE X a (lE L A)) (hb : PE X b (lE L B)) : PE X (.Compare a [.GtE] [b] pos) (lE L (eBin (dI (fun i j => .bl (decide (j ≤ i))) fun _ _ => True) A B)) := ed_cmp op_ge od_B0 ha hb (nomark _)
/-- is, is not None, True, False -/
def isNon : D → Bool
  | .non => true
  | _ => false
def dIs (neg : Bool) : D → D → (D → Prop) → Prop
  | x, .non, P => P (.bl (isNon x != neg))
  | .bl a, .bl b, P => P (.bl ((a == b) != neg))
  | _, _, _ => False
theorem non_iff {K : PySem.W.Frag} {H : Hp} {v : V} {x : D} (r : Rep K H v x) : decide (v = .non) = isNon x := by
  cases r <;> simp [isNon]
theorem op_isD : OpR X (compareOp .Is) (fun x y H Q => (y = .non ∧ Q (.bl (decide (x = .non))) H) ∨ rIsB x y H Q) := OpR.or op_isN op_isBl
theorem op_isnD : OpR X (compareOp .IsNot) (fun x y H Q => (y = .non ∧ Q (.bl (!decide (x = .non))) H) ∨ rNotB x y H Q) := OpR.or op_notN op_notBl
theorem od_is {K : PySem.W.Frag} : OpD K (fun x y H Q => (y = .non ∧ Q (.bl (decide (x = .non))) H) ∨ rIsB x y H Q) (dIs false) := OpD.flat fun rx ry q k => by
  unfold dIs at q
  split at q
  · exact .inl ⟨ry.non_inv, by rw [non_iff rx]; exact k _ _ q fun _ _ => by rw [Bool.bne_false]; exact .bl⟩
  · exact .inr ⟨_, _, rx.bl_inv, ry.bl_inv, by rw [← Bool.beq_eq_decide_eq]; exact k _ _ q fun _ _ => by rw [Bool.bne_false]; exact .bl⟩
  · exact q.elim
theorem od_isn {K : PySem.W.Frag} : OpD K (fun x y H Q => (y = .non ∧ Q (.bl (!decide (x = .non))) H) ∨ rNotB x y H Q) (dIs true) := OpD.flat fun rx ry q k => by
  unfold dIs at q
  split at q
  · exact .inl ⟨ry.non_inv, by rw [non_iff rx]; exact k _ _ q fun _ _ => by rw [Bool.bne_true]; exact .bl⟩
  · exact .inr ⟨_, _, rx.bl_inv, ry.bl_inv, by rw [← Bool.beq_eq_decide_eq]; exact k _ _ q fun _ _ => by rw [Bool.bne_true]; exact .bl⟩
  · exact q.elim
theorem ed_is (ha : PE X a (lE L A)) (hb : PE X b (lE L B)) : PE X (.Compare a [.Is] [b] pos) (lE L (eBin (dIs false) A B)) := ed_cmp op_isD od_is ha hb (nomark _)
theorem ed_isn (ha : PE X a (lE L A)) (hb : PE X b (lE L B)) : PE X (.Compare a [.IsNot] [b] pos) (lE L (eBin (dIs true) A B)) := ed_cmp op_isnD od_isn ha hb (nomark _)
end
end DV

set_option Elab.async false
set_option linter.all false
set_option maxRecDepth 100000
set_option maxHeartbeats 4000000
/-! DV: equality, tests, displays, built-ins. -/
namespace DV
open PySem L2

/-! ### data that == looks through -/
mutual
def toPy : D → PyData
  | .non => .none
  | .bl b => .bool b
  | .int i => .int i
  | .str s => .str s
  | .lst l => .list (toPys l)
  | .tup l => .tuple (toPys l)
  | .dic _ => .none
  | .obj _ _ => .none
  | .glb _ => .none
  | .ty _ => .none
  | .scr _ => .none
def toPys : List D → List PyData
  | [] => []
  | d :: ds => toPy d :: toPys ds
end
mutual
def okPy : D → Bool
  | .non => true
  | .bl _ => true
  | .int _ => true
  | .str _ => true
  | .lst l => okPys l
  | .tup l => okPys l
  | .dic _ => false
  | .obj _ _ => false
  | .glb _ => false
  | .ty _ => false
  | .scr _ => false
def okPys : List D → Bool
  | [] => true
  | d :: ds => okPy d && okPys ds
end
theorem Reps.dp {K : PySem.W.Frag} {H : Hp} {vs : List V} {ds : List D} (h : Reps K H vs ds) : okPys ds = true → DpAll K H vs (toPys ds) := by
  induction h with
  | nil => intro _; exact .nil
  | non _ ih => intro o; simp only [okPys, okPy, Bool.true_and] at o; exact .cons .non (ih o)
  | bl _ ih => intro o; simp only [okPys, okPy, Bool.true_and] at o; exact .cons (.bl _) (ih o)
  | int _ ih => intro o; simp only [okPys, okPy, Bool.true_and] at o; exact .cons (.int _) (ih o)
  | str _ ih => intro o; simp only [okPys, okPy, Bool.true_and] at o; exact .cons (.str _) (ih o)
  | ty _ ih => intro o; simp [okPys, okPy] at o
  | glb _ ih => intro o; simp [okPys, okPy] at o
  | scr h1 _ ih => intro o; simp [okPys, okPy] at o
  | lst h1 _ _ ih1 ih2 => intro o; simp only [okPys, okPy, Bool.and_eq_true] at o; exact .cons (.lst (SqL.of h1) (ih1 o.1)) (ih2 o.2)
  | tup h1 _ _ ih1 ih2 => intro o; simp only [okPys, okPy, Bool.and_eq_true] at o; exact .cons (.tup h1 (ih1 o.1)) (ih2 o.2)
  | dic h1 h2 h3 h4 _ _ ih1 ih2 => intro o; simp [okPys, okPy] at o
  | obj h1 h2 h3 h4 _ _ ih1 ih2 => intro o; simp [okPys, okPy] at o
theorem Rep.dp {K : PySem.W.Frag} {H : Hp} {v : V} {d : D} (h : Rep K H v d) (o : okPy d = true) : Dp K H v (toPy d) := by
  have q := Reps.dp h (by simp only [okPys, o, Bool.true_and])
  cases q with
  | cons a b => exact a
theorem DpAll.mono {K : PySem.W.Frag} {H H' : Hp} (e : Ex H H') : ∀ (ds : List PyData) (vs : List V), DpAll K H vs ds → DpAll K H' vs ds := by
  have key : (∀ (d : PyData) (v : V), Dp K H v d → Dp K H' v d) := by
    intro d v h
    exact Dp.rec (motive_1 := fun v d _ => Dp K H' v d) (motive_2 := fun vs ds _ => DpAll K H' vs ds) .non .bl .int .str (fun h _ ih => .lst (ex_l e h) ih) (fun h _ ih => .tup (ex_t e h) ih) .nil (fun _ _ a b => .cons a b) h
  intro ds
  induction ds with
  | nil => intro vs h; cases h; exact .nil
  | cons d ds ih => intro vs h; cases h with | cons a b => exact .cons (key _ _ a) (ih _ b)
theorem Dp.mono {K : PySem.W.Frag} {H H' : Hp} {v : V} {d : PyData} (h : Dp K H v d) (e : Ex H H') : Dp K H' v d := by
  have q := DpAll.mono e [d] [v] (.cons h .nil)
  cases q with
  | cons a b => exact a
theorem Rep1.dp {K : PySem.W.Frag} {H0 H : Hp} {v : V} {d : D} (h : Rep1 K H0 H v d) (e : Ex H0 H) (o : okPy d = true) : Dp K H v (toPy d) := by
  rcases h with h | ⟨a, ob, rfl, h, r⟩
  · exact (h.mono e).dp o
  · cases d with
    | lst ds =>
      obtain ⟨vs, rfl, r⟩ := r.lst_inv
      simp only [okPy] at o
      rw [toPy]
      exact .lst (SqL.of h) ((r.mono e).dp o)
    | dic ds => simp [okPy] at o
    | obj C ds => simp [okPy] at o
    | _ => cases ob <;> exact (show False from r).elim
abbrev shp (d : D) : Prop := okPy d = true ∧ SeqAt.shaped (toPy d) = true
def dqv (x y : D) : Bool := PyData.eqv (toPy x) (toPy y)
def dEq (neg : Bool) : D → D → (D → Prop) → Prop := fun x y P => shp x ∧ shp y ∧ P (.bl (dqv x y != neg))
section
variable {X : Cx} {L : Li} {e a b : Expr} {A B : DE} {T U : DT} {pos : Pos}
theorem om_eq {K : PySem.W.Frag} : OpM K (rEqD K) (dEq false) := by
  intro J hJ m σ ρ H0 H vx vy x y Po Q I rx ry q k
  obtain ⟨⟨o1, s1⟩, ⟨o2, s2⟩, q⟩ := q
  exact ⟨_, _, (rx.mono I.sub).dp o1, ry.dp I.sub o2, s1, s2, k _ _ _ _ q (Ex.refl _) I (by rw [Bool.bne_false]; exact .bl)⟩
theorem om_ne {K : PySem.W.Frag} : OpM K (rNeD K) (dEq true) := by
  intro J hJ m σ ρ H0 H vx vy x y Po Q I rx ry q k
  obtain ⟨⟨o1, s1⟩, ⟨o2, s2⟩, q⟩ := q
  exact ⟨_, _, (rx.mono I.sub).dp o1, ry.dp I.sub o2, s1, s2, k _ _ _ _ q (Ex.refl _) I (by rw [Bool.bne_true]; exact .bl)⟩
theorem ed_eq (hu : X.A.units + 64 < cLine) (ha : PE X a (lE L A)) (hb : PE X b (lM L B)) (hK : L.K = X.K := by rfl) : PE X (.Compare a [.Eq] [b] pos) (lE L (eBin (dEq false) A B)) := ed_cmpM (op_eqD hu) (by rw [← hK]; exact om_eq) ha hb (nomark _)
theorem ed_ne (hu : X.A.units + 64 < cLine) (ha : PE X a (lE L A)) (hb : PE X b (lM L B)) (hK : L.K = X.K := by rfl) : PE X (.Compare a [.NotEq] [b] pos) (lE L (eBin (dEq true) A B)) := ed_cmpM (op_neD hu) (by rw [← hK]; exact om_ne) ha hb (nomark _)
/-! ### in: a list of data, a tuple of flat data, a dict -/
def flatD : D → Bool
  | .non | .bl _ | .int _ | .str _ => true
  | _ => false
theorem Reps.flat {K : PySem.W.Frag} {H : Hp} {vs : List V} {ds : List D} (h : Reps K H vs ds) (o : ds.all flatD = true) : vs.all flatV = true := by
  induction vs generalizing ds with
  | nil => rfl
  | cons v vs ih =>
    obtain ⟨d, ds', rfl, h1, h2⟩ := h.cons_inv'
    rw [List.all_cons, Bool.and_eq_true] at o ⊢
    refine ⟨?_, ih h2 o.2⟩
    cases h1 <;> first | rfl | (exact absurd o.1 Bool.false_ne_true)
theorem eqV_dqv {K : PySem.W.Frag} {H H' : Hp} {v w : V} {d e : D} (h : Rep K H v d) (h' : Rep K H' w e) (o : flatD d = true) (o' : flatD e = true) : eqV v w = dqv d e := by
  cases h <;> first | (exact absurd o Bool.false_ne_true) | (cases h' <;> first | (exact absurd o' Bool.false_ne_true) | rfl)
theorem inV_any {K : PySem.W.Frag} {H H' : Hp} {v : V} {d : D} {vs : List V} {ds : List D} (h : Rep K H v d) (h' : Reps K H' vs ds) (o : flatD d = true) (o' : ds.all flatD = true) : inV v vs = ds.any fun z => dqv z d := by
  induction vs generalizing ds with
  | nil => obtain rfl := h'.nil_inv'; rfl
  | cons w vs ih =>
    obtain ⟨d', ds', rfl, h1, h2⟩ := h'.cons_inv'
    rw [List.all_cons, Bool.and_eq_true] at o'
    show (eqV w v || inV v vs) = _
    rw [ih h2 o'.2, eqV_dqv h1 h o'.1 o]; rfl
theorem toPys_any (ds : List D) (p : PyData → Bool) : (toPys ds).any p = ds.any fun z => p (toPy z) := by
  induction ds with
  | nil => rw [toPys]; rfl
  | cons d ds ih => rw [toPys, List.any_cons, List.any_cons, ih]
/-- is it a key -/
def keyOf : D → Option Key
  | .int i => some (.inl i)
  | .str s => some (.inr s)
  | _ => none
def dIn (neg : Bool) : D → D → (D → Prop) → Prop
  | x, .lst ds, P => shp x ∧ shp (.lst ds) ∧ P (.bl (ds.any (fun z => dqv z x) != neg))
  | x, .tup ds, P => flatD x = true ∧ ds.all flatD = true ∧ P (.bl (ds.any (fun z => dqv z x) != neg))
  | x, .dic kds, P => ∃ k, keyOf x = some k ∧ P (.bl (kds.any (fun q => decide (q.1 = k)) != neg))
  | x, .str y, P => ∃ c : Nat, x = .str ⟨#[c]⟩ ∧ P (.bl (decide (c ∈ y.cps.toList) != neg))
  | _, _, _ => False
theorem valV_any {kvs : List (Key × V)} {kds : List (Key × D)} (h : kvs.map (·.1) = kds.map (·.1)) (k : Key) : (valV kvs k).isSome = kds.any fun q => decide (q.1 = k) := by
  induction kvs generalizing kds with
  | nil =>
    cases kds with
    | nil => rfl
    | cons q l => simp at h
  | cons p kvs ih =>
    cases kds with
    | nil => simp at h
    | cons q l =>
      simp only [List.map_cons, List.cons.injEq] at h
      have ih' := ih h.2
      unfold valV at ih' ⊢
      rw [List.any_cons, ← h.1, List.find?_cons]
      by_cases c : p.1 = k
      · simp [c]
      · simp only [decide_eq_false c, Bool.false_or]; exact ih'
theorem keyOf_kV {K : PySem.W.Frag} {H : Hp} {v : V} {d : D} {k : Key} (r : Rep K H v d) (h : keyOf d = some k) : v = kV k := by
  cases r <;> first | (cases h; rfl) | cases h
def rInA (K : PySem.W.Frag) (neg : Bool) : R2 := fun x y H Q => (if neg then rNotInD K x y H Q else rInD K x y H Q) ∨ rIn K neg x y H Q ∨ (∃ a o, y = .ref a ∧ DGet H a x o ∧ Q (.bl (o.isSome != neg)) H) ∨
  (∃ (c : Nat) (z : Str), x = .str ⟨#[c]⟩ ∧ y = .str z ∧ Q (.bl (decide (c ∈ z.cps.toList) != neg)) H)
theorem op_inA (hu : X.A.units + 65 < cLine) : OpR X (compareOp .In) (rInA X.K false) := by
  refine OpR.or (op_inD hu) (OpR.or op_in_seq (OpR.or ?_ ?_))
  · intro pins s σ H x y v u Q I rx ry ⟨a, o, e, g, q⟩
    subst e
    obtain rfl : u = Value.ref a := ry
    exact d_in (by omega) I g rx fun s3 I3 => ⟨.bl o.isSome, H, I3, rfl, by rw [Bool.bne_false] at q; exact q⟩
  · intro pins s σ H x y v u Q I rx ry ⟨c, z, e1, e2, q⟩
    exact op_in_sign pins s σ H x y v u Q I rx ry ⟨c, z, e1, e2, by rw [Bool.bne_false] at q; exact q⟩
theorem op_notInA (hu : X.A.units + 65 < cLine) : OpR X (compareOp .NotIn) (rInA X.K true) := by
  refine OpR.or (op_notInD hu) (OpR.or op_notIn_seq (OpR.or ?_ ?_))
  · intro pins s σ H x y v u Q I rx ry ⟨a, o, e, g, q⟩
    subst e
    obtain rfl : u = Value.ref a := ry
    exact d_notIn (by omega) I g rx fun s3 I3 => ⟨.bl (!o.isSome), H, I3, rfl, by rw [Bool.bne_true] at q; exact q⟩
  · intro pins s σ H x y v u Q I rx ry ⟨c, z, e1, e2, q⟩
    exact op_notIn_sign pins s σ H x y v u Q I rx ry ⟨c, z, e1, e2, by rw [Bool.bne_true] at q; exact q⟩
theorem om_in {K : PySem.W.Frag} {neg : Bool} : OpM K (rInA K neg) (dIn neg) := by
  intro J hJ m σ ρ H0 H vx vy x y Po Q I rx ry q k
  have kb : ∀ b, Po (.bl b) → Q (.bl b) H := fun b p => k _ _ _ _ p (Ex.refl _) I .bl
  unfold dIn at q
  split at q
  · obtain ⟨⟨o1, s1⟩, ⟨o2, s2⟩, q⟩ := q
    have d1 := (rx.mono I.sub).dp o1
    have d2 := ry.dp I.sub o2
    rw [toPy] at d2 s2
    left
    cases neg
    · exact ⟨_, _, d1, d2, s1, s2, by rw [toPys_any]; rw [Bool.bne_false] at q; exact kb _ q⟩
    · exact ⟨_, _, d1, d2, s1, s2, by rw [toPys_any]; rw [Bool.bne_true] at q; exact kb _ q⟩
  · obtain ⟨o1, o2, q⟩ := q
    obtain ⟨a, ws, rfl, hs, r⟩ := ry.tup_inv.tup_inv
    refine .inr (.inl ⟨a, ws, rfl, .inr (ex_t I.sub hs), ?_, r.flat o2, ?_⟩)
    · cases rx <;> first | rfl | (exact absurd o1 Bool.false_ne_true)
    · rw [inV_any rx r o1 o2]
      cases neg
      · rw [Bool.bne_false] at q; exact kb _ q
      · rw [Bool.bne_true] at q; exact kb _ q
  · obtain ⟨kk, hk, q⟩ := q
    obtain ⟨a, kvs, rfl, h, e1, r⟩ := ry.dic_inv I.sub
    refine .inr (.inr (.inl ⟨a, valV kvs kk, rfl, .inl ⟨kvs, kk, .inl h, keyOf_kV rx hk, rfl⟩, ?_⟩))
    rw [valV_any e1]; exact kb _ q
  · obtain ⟨c, rfl, q⟩ := q
    have e2 := (ry.flat fun o h => by cases o <;> exact h).str_inv
    exact .inr (.inr (.inr ⟨c, _, rx.str_inv, e2, kb _ q⟩))
  · exact q.elim
theorem ed_in (hu : X.A.units + 65 < cLine) (ha : PE X a (lE L A)) (hb : PE X b (lM L B)) (hK : L.K = X.K := by rfl) (hm : behindInMarks .In b = false := by rfl) : PE X (.Compare a [.In] [b] pos) (lE L (eBin (dIn false) A B)) := ed_cmpM (op_inA hu) (by rw [← hK]; exact om_in) ha hb hm
theorem ed_notIn (hu : X.A.units + 65 < cLine) (ha : PE X a (lE L A)) (hb : PE X b (lM L B)) (hK : L.K = X.K := by rfl) (hm : behindInMarks .NotIn b = false := by rfl) : PE X (.Compare a [.NotIn] [b] pos) (lE L (eBin (dIn true) A B)) := ed_cmpM (op_notInA hu) (by rw [← hK]; exact om_in) ha hb hm

/-! ### tests -/
def tV (A : DE) : DT := fun ρ P R => A ρ (fun d ρ' => ∃ b, d = .bl b ∧ P b ρ') R
theorem td_val (h : PE X e (lE L A)) (he : ∀ whole, isTrue e X.env whole = (do let v ← whole; standAt e.pos; holding [v] (truthy v)) := by intro _; rfl) : PT X e (lT L (tV A)) :=
  PT.weak (pt_val h he) fun σ H Q ⟨m, H0, ρ, P, R, I, q, k, x⟩ => ⟨m, H0, ρ, _, R, I, q, fun d ρ' v H0' H' ⟨b, e, p⟩ ex I' r => by
    subst e
    exact ⟨b, r.bl_inv, k b ρ' H0' H' p ex I'⟩, x⟩
/-- a single comparison as a test -/
theorem td_cmpM {op : CmpOp} {r : R2} {f : D → D → (D → Prop) → Prop} (ho : OpR X (compareOp op) r) (hd : OpM L.K r f) (ha : PE X a (lE L A)) (hb : PE X b (lM L B)) (hm : behindInMarks op b = false) : PT X (.Compare a [op] [b] pos) (lT L (tV (eBin f A B))) :=
  PT.weak (pt_cmpR ho ha hb hm) fun σ H Q ⟨m, H0, ρ, P, R, I, q, k, x⟩ =>
    l_binM hd ⟨m, H0, ρ, _, R, I, q, fun d ρ' v H0' H' ⟨b, e, p⟩ ex I' r => by
      subst e
      exact ⟨b, r.bl_inv, k b ρ' H0' H' p ex I'⟩, x⟩
theorem td_cmp {op : CmpOp} {r : R2} {f : D → D → (D → Prop) → Prop} (ho : OpR X (compareOp op) r) (hd : OpD L.K r f) (ha : PE X a (lE L A)) (hb : PE X b (lE L B)) (hm : behindInMarks op b = false) : PT X (.Compare a [op] [b] pos) (lT L (tV (eBin f A B))) :=
  PT.weak (pt_cmpR ho ha hb hm) fun σ H Q ⟨m, H0, ρ, P, R, I, q, k, x⟩ =>
    l_bin hd ⟨m, H0, ρ, _, R, I, q, fun d ρ' v H0' H' ⟨b, e, p⟩ ex I' r => by
      subst e
      exact ⟨b, r.bl_inv, k b ρ' H0' H' p ex I'⟩, x⟩
theorem td_eq (hu : X.A.units + 64 < cLine) (ha : PE X a (lE L A)) (hb : PE X b (lM L B)) (hK : L.K = X.K := by rfl) : PT X (.Compare a [.Eq] [b] pos) (lT L (tV (eBin (dEq false) A B))) := td_cmpM (op_eqD hu) (by rw [← hK]; exact om_eq) ha hb (nomark _)
theorem td_ne (hu : X.A.units + 64 < cLine) (ha : PE X a (lE L A)) (hb : PE X b (lM L B)) (hK : L.K = X.K := by rfl) : PT X (.Compare a [.NotEq] [b] pos) (lT L (tV (eBin (dEq true) A B))) := td_cmpM (op_neD hu) (by rw [← hK]; exact om_ne) ha hb (nomark _)
theorem td_in (hu : X.A.units + 65 < cLine) (ha : PE X a (lE L A)) (hb : PE X b (lM L B)) (hK : L.K = X.K := by rfl) (hm : behindInMarks .In b = false := by rfl) : PT X (.Compare a [.In] [b] pos) (lT L (tV (eBin (dIn false) A B))) := td_cmpM (op_inA hu) (by rw [← hK]; exact om_in) ha hb hm
theorem td_notIn (hu : X.A.units + 65 < cLine) (ha : PE X a (lE L A)) (hb : PE X b (lM L B)) (hK : L.K = X.K := by rfl) (hm : behindInMarks .NotIn b = false := by rfl) : PT X (.Compare a [.NotIn] [b] pos) (lT L (tV (eBin (dIn true) A B))) := td_cmpM (op_notInA hu) (by rw [← hK]; exact om_in) ha hb hm
theorem td_lt (ha : PE X a (lE L A)) (hb : PE X b (lE L B)) : PT X (.Compare a [.Lt] [b] pos) (lT L (tV (eBin (dI (fun i j => .bl (decide (i < j))) fun _ _ => True) A B))) := td_cmp op_lt od_B0 ha hb (nomark _)
theorem td_le (ha : PE X a (lE L A)) (hb : PE X b (lE L B)) : PT X (.Compare a [.LtE] [b] pos) (lT L (tV (eBin (dI (fun i j => .bl (decide (i ≤ j))) fun _ _ => True) A B))) := td_cmp op_le od_B0 ha hb (nomark _)
theorem td_gt (ha : PE X a (lE L A)) (hb : PE X b (lE L B)) : PT X (.Compare a [.Gt] [b] pos) (lT L (tV (eBin (dI (fun i j => .bl (decide (j < i))) fun _ _ => True) A B))) := td_cmp op_gt od_B0 ha hb (nomark _)
theorem td_ge (ha : PE X a (lE L A)) (hb : PE X b (lE L B)) : PT X (.Compare a [.GtE] [b] pos) (lT L (tV (eBin (dI (fun i j => .bl (decide (j ≤ i))) fun _ _ => True) A B))) := td_cmp op_ge od_B0 ha hb (nomark _)
theorem td_is (ha : PE X a (lE L A)) (hb : PE X b (lE L B)) : PT X (.Compare a [.Is] [b] pos) (lT L (tV (eBin (dIs false) A B))) := td_cmp op_isD od_is ha hb (nomark _)
theorem td_isn (ha : PE X a (lE L A)) (hb : PE X b (lE L B)) : PT X (.Compare a [.IsNot] [b] pos) (lT L (tV (eBin (dIs true) A B))) := td_cmp op_isnD od_isn ha hb (nomark _)
def uNot (T : DT) : DT := fun ρ P R => T ρ (fun b ρ' => P (!b) ρ') R
def uAnd (T U : DT) : DT := fun ρ P R => T ρ (fun b ρ' => if b = true then U ρ' P R else P false ρ') R
def uOr (T U : DT) : DT := fun ρ P R => T ρ (fun b ρ' => if b = true then P true ρ' else U ρ' P R) R
theorem td_not (h : PT X e (lT L T)) : PT X (.UnaryOp .Not e pos) (lT L (uNot T)) :=
  PT.weak (pt_not h) fun σ H Q ⟨m, H0, ρ, P, R, I, q, k, x⟩ => ⟨m, H0, ρ, _, R, I, q, fun b ρ' H0' H' p ex I' => k _ ρ' H0' H' p ex I', x⟩
variable {rest : List Expr}
theorem wd_and1 (h : PT X e (lT L T)) : PW X (.BoolOp .And [e] pos) (lT L T) := pw_and1 h
theorem wd_or1 (h : PT X e (lT L T)) : PW X (.BoolOp .Or [e] pos) (lT L T) := pw_or1 h
theorem l_and {σ : St} {H : Hp} {Q : Bool → Hp → Prop} (h : lT L (uAnd T U) σ H Q) : tAnd (lT L T) (lT L U) σ H Q := by
  obtain ⟨m, H0, ρ, P, R, I, q, k, x⟩ := h
  refine ⟨m, H0, ρ, _, R, I, q, fun b ρ' H0' H' p ex I' => ?_, x⟩
  cases b with
  | true =>
    rw [if_pos rfl] at p ⊢
    exact ⟨m, H0', ρ', P, R, I', p, fun b ρ2 H2 H2' p2 ex2 I2 => k b ρ2 H2 H2' p2 (ex.trans ex2) I2, x⟩
  | false =>
    rw [if_neg Bool.false_ne_true] at p ⊢
    exact k _ _ _ _ p ex I'
theorem l_or {σ : St} {H : Hp} {Q : Bool → Hp → Prop} (h : lT L (uOr T U) σ H Q) : tOr (lT L T) (lT L U) σ H Q := by
  obtain ⟨m, H0, ρ, P, R, I, q, k, x⟩ := h
  refine ⟨m, H0, ρ, _, R, I, q, fun b ρ' H0' H' p ex I' => ?_, x⟩
  cases b with
  | false =>
    rw [if_neg Bool.false_ne_true] at p ⊢
    exact ⟨m, H0', ρ', P, R, I', p, fun b ρ2 H2 H2' p2 ex2 I2 => k b ρ2 H2 H2' p2 (ex.trans ex2) I2, x⟩
  | true =>
    rw [if_pos rfl] at p ⊢
    exact k _ _ _ _ p ex I'
theorem wd_and (h : PT X a (lT L T)) (h' : PW X (.BoolOp .And (b :: rest) pos) (lT L U)) : PW X (.BoolOp .And (a :: b :: rest) pos) (lT L (uAnd T U)) := PW.weak (pw_and h h') fun _ _ _ => l_and
theorem wd_or (h : PT X a (lT L T)) (h' : PW X (.BoolOp .Or (b :: rest) pos) (lT L U)) : PW X (.BoolOp .Or (a :: b :: rest) pos) (lT L (uOr T U)) := PW.weak (pw_or h h') fun _ _ _ => l_or
/-- a test as a value: not; and, or of truths -/
def eNot (A : DE) : DE := fun ρ P R => A ρ (fun d ρ' => ∃ b, d = .bl b ∧ P (.bl (!b)) ρ') R
theorem ed_not (h : PE X e (lE L A)) : PE X (.UnaryOp .Not e pos) (lE L (eNot A)) :=
  PE.weak (pe_not h) fun σ H Q ⟨m, H0, ρ, P, R, I, q, k, x⟩ => ⟨m, H0, ρ, _, R, I, q, fun d ρ' v H0' H' ⟨b, e, p⟩ ex I' r => by
    subst e
    exact ⟨b, r.bl_inv, k _ ρ' _ H0' H' p ex I' .bl⟩, x⟩
def eAnd (A B : DE) : DE := fun ρ P R => A ρ (fun d ρ' => ∃ b, d = .bl b ∧ if b = true then B ρ' P R else P (.bl false) ρ') R
def eOr (A B : DE) : DE := fun ρ P R => A ρ (fun d ρ' => ∃ b, d = .bl b ∧ if b = true then P (.bl true) ρ' else B ρ' P R) R
end
end DV

set_option Elab.async false
set_option linter.all false
set_option maxRecDepth 100000
set_option maxHeartbeats 4000000
/-! DV: displays, calls of built-ins, items, slices. -/
namespace DV
open PySem L2
section
variable {X : Cx} {L : Li} {e a b : Expr} {A B : DE} {T U : DT} {pos : Pos} {rest : List Expr}
theorem ed_one {op} (h : PE X a (lE L A)) : PE X (.BoolOp op [a] pos) (lE L A) := pe_one h
theorem ed_and (h : PE X a (lE L A)) (h' : PE X (.BoolOp .And (b :: rest) pos) (lE L B)) : PE X (.BoolOp .And (a :: b :: rest) pos) (lE L (eAnd A B)) :=
  PE.weak (pe_and h h') fun σ H Q ⟨m, H0, ρ, P, R, I, q, k, x⟩ => ⟨m, H0, ρ, _, R, I, q, fun d ρ' v H0' H' ⟨c, e, p⟩ ex I' r => by
    subst e
    refine ⟨c, r.bl_inv, ?_⟩
    cases c with
    | true =>
      rw [if_pos rfl] at p ⊢
      exact ⟨m, H0', ρ', P, R, I', p, fun b ρ2 v2 H2 H2' p2 ex2 I2 => k b ρ2 v2 H2 H2' p2 (ex.trans ex2) I2, x⟩
    | false =>
      rw [if_neg Bool.false_ne_true] at p ⊢
      exact k _ _ _ _ _ p ex I' .bl, x⟩
theorem ed_or (h : PE X a (lE L A)) (h' : PE X (.BoolOp .Or (b :: rest) pos) (lE L B)) : PE X (.BoolOp .Or (a :: b :: rest) pos) (lE L (eOr A B)) :=
  PE.weak (pe_or h h') fun σ H Q ⟨m, H0, ρ, P, R, I, q, k, x⟩ => ⟨m, H0, ρ, _, R, I, q, fun d ρ' v H0' H' ⟨c, e, p⟩ ex I' r => by
    subst e
    refine ⟨c, r.bl_inv, ?_⟩
    cases c with
    | false =>
      rw [if_neg Bool.false_ne_true] at p ⊢
      exact ⟨m, H0', ρ', P, R, I', p, fun b ρ2 v2 H2 H2' p2 ex2 I2 => k b ρ2 v2 H2 H2' p2 (ex.trans ex2) I2, x⟩
    | true =>
      rw [if_pos rfl] at p ⊢
      exact k _ _ _ _ _ p ex I' .bl, x⟩
def eIf (T : DT) (A B : DE) : DE := fun ρ P R => T ρ (fun b ρ' => if b = true then A ρ' P R else B ρ' P R) R
theorem ed_if {c : Expr} (hc : PT X c (lT L T)) (ha : PE X a (lE L A)) (hb : PE X b (lE L B)) : PE X (.IfExp c a b pos) (lE L (eIf T A B)) :=
  PE.weak (pe_ifExp hc ha hb) fun σ H Q ⟨m, H0, ρ, P, R, I, q, k, x⟩ => ⟨m, H0, ρ, _, R, I, q, fun c ρ' H0' H' p ex I' => by
    cases c with
    | true =>
      rw [if_pos rfl] at p ⊢
      exact ⟨m, H0', ρ', P, R, I', p, fun b ρ2 v2 H2 H2' p2 ex2 I2 => k b ρ2 v2 H2 H2' p2 (ex.trans ex2) I2, x⟩
    | false =>
      rw [if_neg Bool.false_ne_true] at p ⊢
      exact ⟨m, H0', ρ', P, R, I', p, fun b ρ2 v2 H2 H2' p2 ex2 I2 => k b ρ2 v2 H2 H2' p2 (ex.trans ex2) I2, x⟩, x⟩

/-! ### argument lists, displays -/
def aNil : DA := fun ρ P _ => P [] ρ
def aCons (A : DE) (B : DA) : DA := fun ρ P R => A ρ (fun x ρ1 => B ρ1 (fun xs ρ2 => P (x :: xs) ρ2) R) R
theorem ad_nil : PA X [] (lA L aNil) := PA.weak pa_nil fun σ H Q ⟨m, H0, ρ, P, R, I, q, k, x⟩ => k [] ρ [] H0 H q (Ex.refl _) I .nil
theorem ad_cons {As : DA} {es : List Expr} (he : PE X e (lE L A)) (hs : PA X es (lA L As)) (h1 : starEach (e :: es) X.env = (false, eval e X.env) :: starEach es X.env := by rfl) : PA X (e :: es) (lA L (aCons A As)) :=
  PA.weak (pa_cons he hs h1) fun σ H Q ⟨m, H0, ρ, P, R, I, q, k, x⟩ => ⟨m, H0, ρ, _, R, I, q, fun d ρ1 v H1 H1' q1 ex1 I1 r1 =>
    ⟨m, H1, ρ1, _, R, I1, q1, fun ds ρ2 vs H2 H2' q2 ex2 I2 r2 => k _ ρ2 _ H2 H2' q2 (ex1.trans ex2) I2 (.cons (r1.mono ex2) r2), x⟩, x⟩
/-- *xs among the items -/
def aStar (A : DE) (B : DA) : DA := fun ρ P R => A ρ (fun x ρ1 => ∃ ys, (x = .lst ys ∨ x = .tup ys) ∧ B ρ1 (fun xs ρ2 => P (ys ++ xs) ρ2) R) R
/-- the list, its length small -/
def eTup (B : DA) : DE := fun ρ P R => B ρ (fun xs ρ1 => xs.length ≤ sizeLine ∧ P (.tup xs) ρ1) R
def eLst (B : DA) : DE := fun ρ P R => B ρ (fun xs ρ1 => xs.length ≤ sizeLine ∧ P (.lst xs) ρ1) R
variable {es : List Expr} {As : DA}
theorem ed_tup {k : Nat} (h : PA X es (lA L As)) : PE X (.Tuple es k pos) (lE L (eTup As)) :=
  PE.weak (pe_tup h) fun σ H Q ⟨m, H0, ρ, P, R, I, q, k, x⟩ => ⟨m, H0, ρ, _, R, I, q, fun ds ρ1 vs H1 H1' ⟨z, p⟩ ex1 I1 r1 =>
    ⟨by rw [r1.length]; exact z, fun t ht => k _ ρ1 _ _ _ p (ex1.trans (Ex.new (I1.free ht))) (I1.alloc L.ok ht) (.tup (SqT.of upd_same) (r1.mono (Ex.new (I1.free ht))))⟩, x⟩
theorem ef_lst (h : PA X es (lA L As)) : PE X (.List es pos) (lF L (eLst As)) :=
  PE.weak (pe_lst h) fun σ H Q ⟨m, H0, ρ, P, R, I, q, k, x⟩ => ⟨m, H0, ρ, _, R, I, q, fun ds ρ1 vs H1 H1' ⟨z, p⟩ ex1 I1 r1 =>
    ⟨by rw [r1.length]; exact z, fun t ht => by
      obtain ⟨I2, f⟩ := I1.fresh L.ok ht (o := .lst vs) (d := .lst ds) r1
      exact k _ ρ1 _ _ _ p ex1 I2 f⟩, x⟩

/-! ### calls of built-ins -/
def eUn (g : D → (D → Prop) → Prop) (A : DE) : DE := fun ρ P R => A ρ (fun x ρ1 => g x fun z => P z ρ1) R
/-- one operand, looked at; what comes may be shared -/
def CaM (K : PySem.W.Frag) (r : List V → Hp → VK → Prop) (g : D → (D → Prop) → Prop) : Prop :=
  ∀ {J : Hp → Prop} (hJ : JOk J) {m : Fm} {σ : St} {ρ : En} {H0 H : Hp} {vx : V} {x : D} {Po : D → Prop} {Q : VK}, In K J m σ ρ H0 H → Rep1 K H0 H vx x → g x Po →
    (∀ z v H0' H', Po z → Ex H0 H0' → In K J m σ ρ H0' H' → Rep K H0' v z → Q v H') → r [vx] H Q
/-- .. is new -/
def CaF (K : PySem.W.Frag) (r : List V → Hp → VK → Prop) (g : D → (D → Prop) → Prop) : Prop :=
  ∀ {J : Hp → Prop} (hJ : JOk J) {m : Fm} {σ : St} {ρ : En} {H0 H : Hp} {vx : V} {x : D} {Po : D → Prop} {Q : VK}, In K J m σ ρ H0 H → Rep1 K H0 H vx x → g x Po →
    (∀ z a H', Po z → In K J m σ ρ H0 H' → Fresh K m σ ρ H0 H' a z → Q (.ref a) H') → r [vx] H Q
theorem l_caM {r : List V → Hp → VK → Prop} {g : D → (D → Prop) → Prop} (hd : CaM L.K r g) {σ : St} {H : Hp} {Q : VK} (h : lE L (eUn g A) σ H Q) : tCB r (tCons (lM L A) tNil) σ H Q := by
  obtain ⟨m, H0, ρ, P, R, I, q, k, x⟩ := h
  exact ⟨m, H0, ρ, _, R, I, q, fun dx ρ1 vx H1 H1' q1 ex1 I1 r1 => hd L.ok I1 r1 q1 fun z v H3 H3' pz ex3 I3 r3 => k z ρ1 v H3 H3' pz (ex1.trans ex3) I3 r3, x⟩
theorem l_caF {r : List V → Hp → VK → Prop} {g : D → (D → Prop) → Prop} (hd : CaF L.K r g) {σ : St} {H : Hp} {Q : VK} (h : lF L (eUn g A) σ H Q) : tCB r (tCons (lM L A) tNil) σ H Q := by
  obtain ⟨m, H0, ρ, P, R, I, q, k, x⟩ := h
  exact ⟨m, H0, ρ, _, R, I, q, fun dx ρ1 vx H1 H1' q1 ex1 I1 r1 => hd L.ok I1 r1 q1 fun z a H3' pz I3 r3 => k z ρ1 a H1 H3' pz ex1 I3 r3, x⟩
variable {x : Str} {p : Pos} {id Ty : String} {r : List V → Hp → VK → Prop} {g : D → (D → Prop) → Prop}
theorem ed_b1 (hc : CallR X (.builtin id) r) (hd : CaM L.K r g) (hm : X.mg x = none) (hv : bootBuiltins x = some (.builtin id)) (ha : PE X e (lM L A)) (hg : Gl X x := by rfl) (hn : x ≠ "__name__" := by decide) (hdb : (x == ("__debug__" : Str)) = false := by decide)
    (h1 : starEach (e :: []) X.env = (false, eval e X.env) :: starEach [] X.env := by rfl) (hpl : (backTo pos (starEach [] X.env)).any (·.1) = false := by rfl) : PE X (.Call (.Name x p) [e] [] pos) (lE L (eUn g A)) :=
  PE.weak (pe_callB hc hg hm hv (pa_cons ha pa_nil h1) hn hdb h1 hpl) fun _ _ _ => l_caM hd
theorem ed_t1 (hc : CallR X (.type Ty) r) (hd : CaM L.K r g) (hm : X.mg x = none) (hv : bootBuiltins x = some (.type Ty)) (ha : PE X e (lM L A)) (hg : Gl X x := by rfl) (hn : x ≠ "__name__" := by decide) (hdb : (x == ("__debug__" : Str)) = false := by decide)
    (h1 : starEach (e :: []) X.env = (false, eval e X.env) :: starEach [] X.env := by rfl) (hpl : (backTo pos (starEach [] X.env)).any (·.1) = false := by rfl) : PE X (.Call (.Name x p) [e] [] pos) (lE L (eUn g A)) :=
  PE.weak (pe_callTy hc hg hm hv (pa_cons ha pa_nil h1) hn hdb h1 hpl) fun _ _ _ => l_caM hd
theorem ef_b1 (hc : CallR X (.builtin id) r) (hd : CaF L.K r g) (hm : X.mg x = none) (hv : bootBuiltins x = some (.builtin id)) (ha : PE X e (lM L A)) (hg : Gl X x := by rfl) (hn : x ≠ "__name__" := by decide) (hdb : (x == ("__debug__" : Str)) = false := by decide)
    (h1 : starEach (e :: []) X.env = (false, eval e X.env) :: starEach [] X.env := by rfl) (hpl : (backTo pos (starEach [] X.env)).any (·.1) = false := by rfl) : PE X (.Call (.Name x p) [e] [] pos) (lF L (eUn g A)) :=
  PE.weak (pe_callB hc hg hm hv (pa_cons ha pa_nil h1) hn hdb h1 hpl) fun _ _ _ => l_caF hd
theorem ef_t1 (hc : CallR X (.type Ty) r) (hd : CaF L.K r g) (hm : X.mg x = none) (hv : bootBuiltins x = some (.type Ty)) (ha : PE X e (lM L A)) (hg : Gl X x := by rfl) (hn : x ≠ "__name__" := by decide) (hdb : (x == ("__debug__" : Str)) = false := by decide)
    (h1 : starEach (e :: []) X.env = (false, eval e X.env) :: starEach [] X.env := by rfl) (hpl : (backTo pos (starEach [] X.env)).any (·.1) = false := by rfl) : PE X (.Call (.Name x p) [e] [] pos) (lF L (eUn g A)) :=
  PE.weak (pe_callTy hc hg hm hv (pa_cons ha pa_nil h1) hn hdb h1 hpl) fun _ _ _ => l_caF hd
/-- len -/
def dLen : D → (D → Prop) → Prop
  | .lst l, P => P (.int l.length)
  | .tup l, P => P (.int l.length)
  | .str s, P => s.length ≤ sizeLine ∧ P (.int s.length)
  | _, _ => False
def rLen (K : PySem.W.Frag) : List V → Hp → VK → Prop := fun xs H Q => ∃ x n, xs = [x] ∧ LenV K x H n ∧ Q (.int n) H
theorem cm_len {K : PySem.W.Frag} : CaM K (rLen K) dLen := by
  intro J hJ m σ ρ H0 H vx x Po Q I rx q k
  unfold dLen at q
  split at q
  · obtain ⟨a, ws, rfl, h, r⟩ := rx.lst_inv I.sub
    exact ⟨_, _, rfl, .inl ⟨ws, SqL.of h, r.length.symm⟩, k _ _ _ _ q (Ex.refl _) I .int⟩
  · obtain ⟨a, ws, rfl, h, r⟩ := rx.tup_inv.tup_inv
    exact ⟨_, _, rfl, .inr ⟨ws, ex_t I.sub h, r.length.symm⟩, k _ _ _ _ q (Ex.refl _) I .int⟩
  · have e := (rx.flat fun o h => by cases o <;> exact h).str_inv
    subst e
    exact ⟨_, _, rfl, ⟨q.1, rfl⟩, k _ _ _ _ q.2 (Ex.refl _) I .int⟩
  · exact q.elim
theorem ed_len (hm : X.mg "len" = none) (ha : PE X e (lM L A)) (hK : L.K = X.K := by rfl) (hg : Gl X "len" := by rfl)
    (h1 : starEach (e :: []) X.env = (false, eval e X.env) :: starEach [] X.env := by rfl) (hpl : (backTo pos (starEach [] X.env)).any (·.1) = false := by rfl) : PE X (.Call (.Name "len" p) [e] [] pos) (lE L (eUn dLen A)) :=
  ed_b1 call_len (by rw [← hK]; exact cm_len) hm PySem.boot_len ha hg (by decide) (by decide) h1 hpl
/-- sum, max, min of ints -/
def dSum : D → (D → Prop) → Prop := fun x P => ∃ ns : List Int, (x = .lst (ns.map D.int) ∨ x = .tup (ns.map D.int)) ∧ P (.int ns.sum)
theorem int_list {K : PySem.W.Frag} {H0 H : Hp} {v : V} {ns : List Int} (r : Rep1 K H0 H v (.lst (ns.map D.int))) (e : Ex H0 H) : ∃ a, v = .ref a ∧ SqL K H a (ns.map V.int) := by
  obtain ⟨a, ws, rfl, h, r⟩ := r.lst_inv e
  obtain rfl := r.ints_inv
  exact ⟨a, rfl, SqL.of h⟩
theorem int_tup {K : PySem.W.Frag} {H0 H : Hp} {v : V} {ns : List Int} (r : Rep1 K H0 H v (.tup (ns.map D.int))) (e : Ex H0 H) : ∃ a, v = .ref a ∧ SqT K H a (ns.map V.int) := by
  obtain ⟨a, ws, rfl, h, r⟩ := r.tup_inv.tup_inv
  obtain rfl := r.ints_inv
  exact ⟨a, rfl, ex_t e h⟩
def rSumA (K : PySem.W.Frag) : List V → Hp → VK → Prop := fun vs H Q => ∃ (a : Addr) (ns : List Int), vs = [V.ref a] ∧ (SqL K H a (ns.map V.int) ∨ SqT K H a (ns.map V.int)) ∧ Q (.int ns.sum) H
end
end DV

set_option Elab.async false
set_option linter.all false
set_option maxRecDepth 100000
set_option maxHeartbeats 4000000
/-! DV: sums, sorts, types, items, slices, fields. -/
namespace PySem
open PyProof.Rows
section
variable {prog : Program} {w : World} {A : Around} {E : Value → Shared → Prop} {s : Shared} {t : Addr} {its : List Value} {ns : List Int} {Q : Value → Shared → Prop}
theorem sum_rawT (hh : A.handled = none) (hl : s.heap.IsTuple t its.toArray) (hi : IntsAre its ns)
    (h : ∀ h' tk t', (∀ b o, s.heap.get? b = some o → h'.get? b = some o) → Q (.int ns.sum t') { s with heap := h', toks := tk }) : wpAny (model prog w) A (call (.builtin "sum") [.ref t]) Q E s := by
  obtain ⟨xs, e⟩ := hi.allInts.items
  have hn : numsOf (intItems xs).toList = ns := by rw [← e]; exact hi.numsOf
  rw [nums_intItems] at hn
  rw [e] at hl
  refine PySem.W.ktm_sumG hh hl fun h' tk t' hk => ?_
  have := h h' tk t' hk
  rw [preSum_eq, List.take_of_length_le (by simp), hn]; exact this
end
end PySem
namespace DV
open PySem L2
section
variable {X : Cx} {L : Li} {e a b : Expr} {A B : DE} {T U : DT} {pos : Pos} {rest : List Expr} {x : Str} {p : Pos} {id Ty : String} {r : List V → Hp → VK → Prop} {g : D → (D → Prop) → Prop}
theorem cr_sumA (hc : X.calm = true) : CallR X (.builtin "sum") (rSumA X.K) := by
  intro pins s σ H vs us Q I r h
  obtain ⟨a, ns, rfl, hs, q⟩ := h
  rcases hs with hs | hs
  · exact cr_sum hc pins s σ H _ us Q I r ⟨a, ns, rfl, hs, q⟩
  · obtain ⟨its, rv, hl, _⟩ := I.tuple hs
    rw [Vals.ref1 r]
    exact PySem.sum_rawT (I.ok.hd hc) (show s.heap.IsTuple a its.toArray from hl) rv.ints fun h' tk t' hk => ⟨.int _, H, I.kept hk, ⟨_, rfl⟩, q⟩
theorem cm_sum {K : PySem.W.Frag} : CaM K (rSumA K) dSum := by
  intro J hJ m σ ρ H0 H vx x Po Q I rx q k
  obtain ⟨ns, e | e, q⟩ := q
  · subst e
    obtain ⟨a, rfl, h⟩ := int_list rx I.sub
    exact ⟨a, ns, rfl, .inl h, k _ _ _ _ q (Ex.refl _) I .int⟩
  · subst e
    obtain ⟨a, rfl, h⟩ := int_tup rx I.sub
    exact ⟨a, ns, rfl, .inr h, k _ _ _ _ q (Ex.refl _) I .int⟩
theorem ed_sum (hc : X.calm = true) (hm : X.mg "sum" = none) (ha : PE X e (lM L A)) (hK : L.K = X.K := by rfl) (hg : Gl X "sum" := by rfl)
    (h1 : starEach (e :: []) X.env = (false, eval e X.env) :: starEach [] X.env := by rfl) (hpl : (backTo pos (starEach [] X.env)).any (·.1) = false := by rfl) : PE X (.Call (.Name "sum" p) [e] [] pos) (lE L (eUn dSum A)) :=
  ed_b1 (cr_sumA hc) (by rw [← hK]; exact cm_sum) hm (by decide +kernel) ha hg (by decide) (by decide) h1 hpl
/-- max, min of some ints -/
def dMax : D → (D → Prop) → Prop := fun x P => ∃ ns : List Int, (x = .lst (ns.map D.int) ∨ x = .tup (ns.map D.int)) ∧ 0 < ns.length ∧ ∀ m, m ∈ ns → (∀ y, y ∈ ns → y ≤ m) → P (.int m)
def dMin : D → (D → Prop) → Prop := fun x P => ∃ ns : List Int, x = .lst (ns.map D.int) ∧ 0 < ns.length ∧ ∀ m, m ∈ ns → (∀ y, y ∈ ns → m ≤ y) → P (.int m)
def rMaxT (K : PySem.W.Frag) : List V → Hp → VK → Prop := fun vs H Q => ∃ (a : Addr) (ns : List Int), vs = [V.ref a] ∧ SqT K H a (ns.map V.int) ∧ 0 < ns.length ∧ ∀ m, m ∈ ns → (∀ y, y ∈ ns → y ≤ m) → Q (.int m) H
theorem foldl_max (n : Int) (ns : List Int) : ns.foldl max n ∈ n :: ns ∧ ∀ y ∈ n :: ns, y ≤ ns.foldl max n := by
  induction ns generalizing n with
  | nil => simp
  | cons k r ih =>
    obtain ⟨h1, h2⟩ := ih (max n k)
    rw [List.foldl_cons]
    refine ⟨?_, fun y hy => ?_⟩
    · rcases List.mem_cons.mp h1 with h | h
      · rw [h]
        by_cases c : n ≤ k
        · rw [Int.max_eq_right c]; simp
        · rw [Int.max_eq_left (by omega)]; simp
      · simp [h]
    · have hm := h2 (max n k) List.mem_cons_self
      rcases List.mem_cons.mp hy with rfl | hy
      · have : y ≤ max y k := by omega
        omega
      · rcases List.mem_cons.mp hy with rfl | hy
        · have : y ≤ max n y := by omega
          omega
        · exact h2 y (List.mem_cons_of_mem _ hy)
theorem cr_maxT (hc : X.calm = true) (hu : X.A.units + 64 < cLine) : CallR X (.builtin "max") (rMaxT X.K) := by
  intro pins s σ H vs us Q I r h
  obtain ⟨a, ns, rfl, hs, hne, q⟩ := h
  obtain ⟨its, rv, hl, _⟩ := I.tuple hs
  rw [Vals.ref1 r]
  cases ns with
  | nil => exact absurd hne (by simp)
  | cons n ns =>
    have hd : DpAll X.K H ((n :: ns).map V.int) (PyData.int n :: ns.map PyData.int) := by
      rw [← List.map_cons (f := PyData.int)]
      clear hs rv hne q
      induction (n :: ns) with
      | nil => exact .nil
      | cons i l ih => exact .cons (.int i) ih
    obtain ⟨as, hr⟩ := Dp.readsAll I _ _ _ hd rv
    have al : PySem.W.AlikeAll (PyData.int n :: ns.map PyData.int) := by
      rw [← List.map_cons (f := PyData.int)]
      constructor
      · intro x hx y hy
        obtain ⟨i, _, rfl⟩ := List.mem_map.mp hx
        obtain ⟨j, _, rfl⟩ := List.mem_map.mp hy
        rfl
      · intro x hx
        obtain ⟨i, _, rfl⟩ := List.mem_map.mp hx
        intro z; cases z
    have dp : ∀ l : List Int, PyData.depthAll (l.map PyData.int) = 0 := by
      intro l
      induction l with
      | nil => rfl
      | cons i l ih => simp [PyData.depthAll, PyData.depth, ih]
    refine PySem.W.max_tuple_data (I.ok.hd hc) (show s.heap.IsTuple a its.toArray from hl) hr al (by rw [← List.map_cons (f := PyData.int), dp]; omega) fun i v h' tk bs hv rd hk => ?_
    rw [PySem.W.maxD_ints] at rd
    obtain ⟨h1, h2⟩ := foldl_max n ns
    cases rd
    exact ⟨.int _, H, I.kept hk, ⟨_, rfl⟩, q _ h1 h2⟩
def rMaxA (K : PySem.W.Frag) : List V → Hp → VK → Prop := fun vs H Q => rMax K vs H Q ∨ rMaxT K vs H Q
theorem cr_maxA (hc : X.calm = true) (hu : X.A.units + 64 < cLine) : CallR X (.builtin "max") (rMaxA X.K) := by
  intro pins s σ H vs us Q I r h
  rcases h with h | h
  · exact cr_max hc pins s σ H vs us Q I r h
  · exact cr_maxT hc hu pins s σ H vs us Q I r h
theorem cm_max {K : PySem.W.Frag} : CaM K (rMaxA K) dMax := by
  intro J hJ m σ ρ H0 H vx x Po Q I rx q k
  obtain ⟨ns, e | e, h0, q⟩ := q
  · subst e
    obtain ⟨a, rfl, h⟩ := int_list rx I.sub
    exact .inl ⟨a, ns, rfl, h, h0, fun m h1 h2 => k _ _ _ _ (q m h1 h2) (Ex.refl _) I .int⟩
  · subst e
    obtain ⟨a, rfl, h⟩ := int_tup rx I.sub
    exact .inr ⟨a, ns, rfl, h, h0, fun m h1 h2 => k _ _ _ _ (q m h1 h2) (Ex.refl _) I .int⟩
theorem cm_min {K : PySem.W.Frag} : CaM K (rMin K) dMin := by
  intro J hJ m σ ρ H0 H vx x Po Q I rx q k
  obtain ⟨ns, e, h0, q⟩ := q
  subst e
  obtain ⟨a, rfl, h⟩ := int_list rx I.sub
  exact ⟨a, ns, rfl, h, h0, fun m h1 h2 => k _ _ _ _ (q m h1 h2) (Ex.refl _) I .int⟩
theorem ed_max (hc : X.calm = true) (hu : X.A.units + 64 < cLine) (hm : X.mg "max" = none) (ha : PE X e (lM L A)) (hK : L.K = X.K := by rfl) (hg : Gl X "max" := by rfl)
    (h1 : starEach (e :: []) X.env = (false, eval e X.env) :: starEach [] X.env := by rfl) (hpl : (backTo pos (starEach [] X.env)).any (·.1) = false := by rfl) : PE X (.Call (.Name "max" p) [e] [] pos) (lE L (eUn dMax A)) :=
  ed_b1 (cr_maxA hc hu) (by rw [← hK]; exact cm_max) hm (by decide +kernel) ha hg (by decide) (by decide) h1 hpl
theorem ed_min (hc : X.calm = true) (hm : X.mg "min" = none) (ha : PE X e (lM L A)) (hK : L.K = X.K := by rfl) (hg : Gl X "min" := by rfl)
    (h1 : starEach (e :: []) X.env = (false, eval e X.env) :: starEach [] X.env := by rfl) (hpl : (backTo pos (starEach [] X.env)).any (·.1) = false := by rfl) : PE X (.Call (.Name "min" p) [e] [] pos) (lE L (eUn dMin A)) :=
  ed_b1 (cr_min hc) (by rw [← hK]; exact cm_min) hm (by decide +kernel) ha hg (by decide) (by decide) h1 hpl
/-- abs, int, str of an int -/
def dAbs : D → (D → Prop) → Prop
  | .int i, P => P (.int (if i < 0 then -i else i))
  | _, _ => False
def dInt : D → (D → Prop) → Prop
  | .int i, P => P (.int i)
  | .bl b, P => P (.int (if b then 1 else 0))
  | _, _ => False
def dStr : D → (D → Prop) → Prop
  | .int i, P => i.natAbs.log2 < 1920 ∧ P (.str (toString i))
  | _, _ => False
theorem cm_abs {K : PySem.W.Frag} : CaM K (fun xs H Q => ∃ i, xs = [.int i] ∧ Q (.int (if i < 0 then -i else i)) H) dAbs := by
  intro J hJ m σ ρ H0 H vx x Po Q I rx q k
  unfold dAbs at q
  split at q
  · have e := (rx.flat fun o h => by cases o <;> exact h).int_inv
    subst e
    exact ⟨_, rfl, k _ _ _ _ q (Ex.refl _) I .int⟩
  · exact q.elim
theorem cm_int {K : PySem.W.Frag} : CaM K (fun xs H Q => (∃ i, xs = [.int i] ∧ Q (.int i) H) ∨ ∃ k, xs = [.bl k] ∧ Q (.int (if k then 1 else 0)) H) dInt := by
  intro J hJ m σ ρ H0 H vx x Po Q I rx q k
  unfold dInt at q
  split at q
  · have e := (rx.flat fun o h => by cases o <;> exact h).int_inv
    subst e
    exact .inl ⟨_, rfl, k _ _ _ _ q (Ex.refl _) I .int⟩
  · have e := (rx.flat fun o h => by cases o <;> exact h).bl_inv
    subst e
    exact .inr ⟨_, rfl, k _ _ _ _ q (Ex.refl _) I .int⟩
  · exact q.elim
theorem cm_str {K : PySem.W.Frag} : CaM K (fun xs H Q => ∃ i, xs = [.int i] ∧ i.natAbs.log2 < 1920 ∧ Q (.str (toString i)) H) dStr := by
  intro J hJ m σ ρ H0 H vx x Po Q I rx q k
  unfold dStr at q
  split at q
  · have e := (rx.flat fun o h => by cases o <;> exact h).int_inv
    subst e
    exact ⟨_, rfl, q.1, k _ _ _ _ q.2 (Ex.refl _) I .str⟩
  · exact q.elim
theorem ed_abs (hm : X.mg "abs" = none) (ha : PE X e (lM L A)) (hg : Gl X "abs" := by rfl)
    (h1 : starEach (e :: []) X.env = (false, eval e X.env) :: starEach [] X.env := by rfl) (hpl : (backTo pos (starEach [] X.env)).any (·.1) = false := by rfl) : PE X (.Call (.Name "abs" p) [e] [] pos) (lE L (eUn dAbs A)) :=
  ed_b1 call_abs cm_abs hm (by decide +kernel) ha hg (by decide) (by decide) h1 hpl
theorem ed_intc (hm : X.mg "int" = none) (ha : PE X e (lM L A)) (hg : Gl X "int" := by rfl)
    (h1 : starEach (e :: []) X.env = (false, eval e X.env) :: starEach [] X.env := by rfl) (hpl : (backTo pos (starEach [] X.env)).any (·.1) = false := by rfl) : PE X (.Call (.Name "int" p) [e] [] pos) (lE L (eUn dInt A)) :=
  ed_t1 call_int1 cm_int hm (by decide +kernel) ha hg (by decide) (by decide) h1 hpl
theorem ed_strc (hm : X.mg "str" = none) (ha : PE X e (lM L A)) (hg : Gl X "str" := by rfl)
    (h1 : starEach (e :: []) X.env = (false, eval e X.env) :: starEach [] X.env := by rfl) (hpl : (backTo pos (starEach [] X.env)).any (·.1) = false := by rfl) : PE X (.Call (.Name "str" p) [e] [] pos) (lE L (eUn dStr A)) :=
  ed_t1 call_str_int cm_str hm (by decide +kernel) ha hg (by decide) (by decide) h1 hpl
/-- list, tuple -/
def dList : D → (D → Prop) → Prop
  | .lst l, P => P (.lst l)
  | .tup l, P => P (.lst l)
  | .scr ns, P => P (.lst (ns.map D.int))
  | .dic kds, P => P (.lst (kds.map fun q => match q.1 with | .inl i => .int i | .inr s => .str s))
  | _, _ => False
def rList (K : PySem.W.Frag) : List V → Hp → VK → Prop := fun xs H Q => (∃ p ys, xs = [.ref p] ∧ (SqL K H p ys ∨ SqT K H p ys) ∧ ∀ l, H l = none → Q (.ref l) (upd H l (.lst ys))) ∨ rListD xs H Q
theorem cr_listA (hc : X.calm = true) : CallR X (.type "list") (rList X.K) := by
  intro pins s σ H vs us Q I r h
  rcases h with h | h
  · exact call_list_of pins s σ H vs us Q I r h
  · exact call_list_dK hc pins s σ H vs us Q I r h
theorem Rep1.scr_inv {K : PySem.W.Frag} {H0 H : Hp} {v : V} {ns : List Int} (h : Rep1 K H0 H v (.scr ns)) (e : Ex H0 H) : ∃ a, v = .ref a ∧ SqL K H a (ns.map V.int) := by
  obtain ⟨a, e1, h⟩ := (h.flat fun o h => by cases o <;> exact h).scr_inv
  exact ⟨a, e1, ex_l e h⟩
theorem Reps.keys {K : PySem.W.Frag} {H : Hp} (ks : List Key) : Reps K H (ks.map kV) (ks.map fun k => match k with | .inl i => D.int i | .inr s => D.str s) := by
  induction ks with
  | nil => exact .nil
  | cons k ks ih =>
    cases k with
    | inl i => exact .int ih
    | inr s => exact .str ih
theorem cf_list {K : PySem.W.Frag} : CaF K (rList K) dList := by
  intro J hJ m σ ρ H0 H vx x Po Q I rx q k
  unfold dList at q
  split at q
  · obtain ⟨a, ws, rfl, h, r⟩ := rx.lst_inv I.sub
    refine .inl ⟨a, ws, rfl, .inl (SqL.of h), fun l hl => ?_⟩
    obtain ⟨I2, f⟩ := I.fresh hJ hl (o := .lst ws) (d := .lst _) r
    exact k _ _ _ q I2 f
  · obtain ⟨a, ws, rfl, h, r⟩ := rx.tup_inv.tup_inv
    refine .inl ⟨a, ws, rfl, .inr (ex_t I.sub h), fun l hl => ?_⟩
    obtain ⟨I2, f⟩ := I.fresh hJ hl (o := .lst ws) (d := .lst _) r
    exact k _ _ _ q I2 f
  · obtain ⟨a, rfl, h⟩ := rx.scr_inv I.sub
    refine .inl ⟨a, _, rfl, .inl h, fun l hl => ?_⟩
    obtain ⟨I2, f⟩ := I.fresh hJ hl (o := .lst _) (d := .lst _) (Reps.ints _)
    exact k _ _ _ q I2 f
  · obtain ⟨a, kvs, rfl, h, e1, r⟩ := rx.dic_inv I.sub
    refine .inr ⟨a, kvs, rfl, h, fun l hl => ?_⟩
    rename_i kds
    have rk : Reps K H0 (kvs.map fun kv => kV kv.1) (kds.map fun q => match q.1 with | .inl i => D.int i | .inr s => D.str s) := by
      have := Reps.keys (K := K) (H := H0) (kvs.map (·.1))
      rw [List.map_map] at this
      rw [e1, List.map_map] at this
      exact this
    obtain ⟨I2, f⟩ := I.fresh hJ hl (o := .lst _) (d := .lst _) rk
    exact k _ _ _ q I2 f
  · exact q.elim
theorem ef_list (hc : X.calm = true) (hm : X.mg "list" = none) (ha : PE X e (lM L A)) (hK : L.K = X.K := by rfl) (hg : Gl X "list" := by rfl)
    (h1 : starEach (e :: []) X.env = (false, eval e X.env) :: starEach [] X.env := by rfl) (hpl : (backTo pos (starEach [] X.env)).any (·.1) = false := by rfl) : PE X (.Call (.Name "list" p) [e] [] pos) (lF L (eUn dList A)) :=
  ef_t1 (cr_listA hc) (by rw [← hK]; exact cf_list) hm (by decide +kernel) ha hg (by decide) (by decide) h1 hpl
def dTuple : D → (D → Prop) → Prop
  | .lst l, P => P (.tup l)
  | .tup l, P => P (.tup l)
  | _, _ => False
def rTuple (K : PySem.W.Frag) : List V → Hp → VK → Prop := fun xs H Q => ∃ p ys, xs = [.ref p] ∧ ((SqL K H p ys ∧ ∀ l, H l = none → Q (.ref l) (upd H l (.tup ys))) ∨ (SqT K H p ys ∧ Q (.ref p) H))
theorem cm_tuple {K : PySem.W.Frag} : CaM K (rTuple K) dTuple := by
  intro J hJ m σ ρ H0 H vx x Po Q I rx q k
  unfold dTuple at q
  split at q
  · obtain ⟨a, ws, rfl, h, r⟩ := rx.lst_inv I.sub
    exact ⟨a, ws, rfl, .inl ⟨SqL.of h, fun l hl => k _ _ _ _ q (Ex.new (I.free hl)) (I.alloc hJ hl) (.tup (SqT.of upd_same) (r.mono (Ex.new (I.free hl))))⟩⟩
  · obtain ⟨a, ws, rfl, h, r⟩ := rx.tup_inv.tup_inv
    exact ⟨a, ws, rfl, .inr ⟨ex_t I.sub h, k _ _ _ _ q (Ex.refl _) I (.tup h r)⟩⟩
  · exact q.elim
theorem ed_tuple (hm : X.mg "tuple" = none) (ha : PE X e (lM L A)) (hK : L.K = X.K := by rfl) (hg : Gl X "tuple" := by rfl)
    (h1 : starEach (e :: []) X.env = (false, eval e X.env) :: starEach [] X.env := by rfl) (hpl : (backTo pos (starEach [] X.env)).any (·.1) = false := by rfl) : PE X (.Call (.Name "tuple" p) [e] [] pos) (lE L (eUn dTuple A)) :=
  ed_t1 call_tuple_of (by rw [← hK]; exact cm_tuple) hm (by decide +kernel) ha hg (by decide) (by decide) h1 hpl
/-- sorted of ints -/
def dSorted : D → (D → Prop) → Prop := fun x P => ∃ ns : List Int, x = .lst (ns.map D.int) ∧ ∀ ns' : List Int, ns'.Perm ns → ns'.Pairwise (· ≤ ·) → P (.lst (ns'.map D.int))
theorem cf_sorted {K : PySem.W.Frag} : CaF K (rSortedI K) dSorted := by
  intro J hJ m σ ρ H0 H vx x Po Q I rx q k
  obtain ⟨ns, e, q⟩ := q
  subst e
  obtain ⟨a, rfl, h⟩ := int_list rx I.sub
  refine ⟨a, ns, rfl, h, fun ns' p h1 h2 hp => ?_⟩
  obtain ⟨I2, f⟩ := I.fresh hJ hp (o := .lst _) (d := .lst _) (Reps.ints (K := K) ns')
  exact k _ _ _ (q ns' h1 h2) I2 f
theorem ef_sorted (hm : X.mg "sorted" = none) (ha : PE X e (lM L A)) (hK : L.K = X.K := by rfl) (hg : Gl X "sorted" := by rfl)
    (h1 : starEach (e :: []) X.env = (false, eval e X.env) :: starEach [] X.env := by rfl) (hpl : (backTo pos (starEach [] X.env)).any (·.1) = false := by rfl) : PE X (.Call (.Name "sorted" p) [e] [] pos) (lF L (eUn dSorted A)) :=
  ef_b1 cr_sortedI (by rw [← hK]; exact cf_sorted) hm (by decide +kernel) ha hg (by decide) (by decide) h1 hpl
/-- any, all of truths -/
def dAny : D → (D → Prop) → Prop := fun x P => ∃ bs : List Bool, x = .lst (bs.map D.bl) ∧ P (.bl (bs.any _root_.id))
def dAll : D → (D → Prop) → Prop := fun x P => ∃ bs : List Bool, x = .lst (bs.map D.bl) ∧ P (.bl (bs.all _root_.id))
theorem bl_list {K : PySem.W.Frag} {H0 H : Hp} {v : V} {ns : List Bool} (r : Rep1 K H0 H v (.lst (ns.map D.bl))) (e : Ex H0 H) : ∃ a, v = .ref a ∧ SqL K H a (ns.map V.bl) := by
  obtain ⟨a, ws, rfl, h, r⟩ := r.lst_inv e
  obtain rfl := r.bls_inv
  exact ⟨a, rfl, SqL.of h⟩
theorem cm_any {K : PySem.W.Frag} : CaM K (rAny K) dAny := by
  intro J hJ m σ ρ H0 H vx x Po Q I rx q k
  obtain ⟨ns, e, q⟩ := q
  subst e
  obtain ⟨a, rfl, h⟩ := bl_list rx I.sub
  exact ⟨a, ns, rfl, h, k _ _ _ _ q (Ex.refl _) I .bl⟩
theorem cm_all {K : PySem.W.Frag} : CaM K (rAll K) dAll := by
  intro J hJ m σ ρ H0 H vx x Po Q I rx q k
  obtain ⟨ns, e, q⟩ := q
  subst e
  obtain ⟨a, rfl, h⟩ := bl_list rx I.sub
  exact ⟨a, ns, rfl, h, k _ _ _ _ q (Ex.refl _) I .bl⟩
theorem ed_any (hc : X.calm = true) (hm : X.mg "any" = none) (ha : PE X e (lM L A)) (hK : L.K = X.K := by rfl) (hg : Gl X "any" := by rfl)
    (h1 : starEach (e :: []) X.env = (false, eval e X.env) :: starEach [] X.env := by rfl) (hpl : (backTo pos (starEach [] X.env)).any (·.1) = false := by rfl) : PE X (.Call (.Name "any" p) [e] [] pos) (lE L (eUn dAny A)) :=
  ed_b1 (cr_any hc) (by rw [← hK]; exact cm_any) hm (by decide +kernel) ha hg (by decide) (by decide) h1 hpl
theorem ed_all (hc : X.calm = true) (hm : X.mg "all" = none) (ha : PE X e (lM L A)) (hK : L.K = X.K := by rfl) (hg : Gl X "all" := by rfl)
    (h1 : starEach (e :: []) X.env = (false, eval e X.env) :: starEach [] X.env := by rfl) (hpl : (backTo pos (starEach [] X.env)).any (·.1) = false := by rfl) : PE X (.Call (.Name "all" p) [e] [] pos) (lE L (eUn dAll A)) :=
  ed_b1 (cr_all hc) (by rw [← hK]; exact cm_all) hm (by decide +kernel) ha hg (by decide) (by decide) h1 hpl
end
end DV

set_option Elab.async false
set_option linter.all false
set_option maxRecDepth 100000
set_option maxHeartbeats 4000000
/-! DV: items, slices, fields, types. -/
namespace DV
open PySem L2
section
variable {X : Cx} {L : Li} {e a b : Expr} {A B : DE} {T U : DT} {pos : Pos} {rest : List Expr} {x : Str} {p : Pos} {id Ty : String} {r : List V → Hp → VK → Prop} {g : D → (D → Prop) → Prop}

/-! ### x[i] -/
theorem Reps.atI {K : PySem.W.Frag} {H : Hp} {vs : List V} {ds : List D} {d : D} {i : Int} (h : Reps K H vs ds) (e : atI ds i = some d) : ∃ v, L2.atI vs i = some v ∧ Rep K H v d := by
  unfold L2.atI at e ⊢
  rw [h.length]
  cases q : ixN ds.length i with
  | none => rw [q] at e; cases e
  | some j =>
    rw [q] at e
    exact h.get e
def dIx : D → D → (D → Prop) → Prop
  | .lst l, .int i, P => ∃ d, atI l i = some d ∧ P d
  | .tup l, .int i, P => ∃ d, atI l i = some d ∧ P d
  | .str z, .int i, P => z.length ≤ sizeLine ∧ ∃ c, atI z.cps.toList i = some c ∧ P (.str ⟨#[c]⟩)
  | _, _, _ => False
theorem od_ix {K : PySem.W.Frag} : OpD K (rIx K) dIx := by
  intro J hJ m σ ρ H0 H vx vy x y Po Q I rx ry q k
  unfold dIx at q
  split at q
  · obtain ⟨d, e, q⟩ := q
    obtain ⟨a, ws, rfl, h, r⟩ := rx.lst_inv
    obtain ⟨v, e2, rv⟩ := r.atI e
    exact .inl ⟨a, ws, _, v, rfl, ry.int_inv, SqL.of (I.sub _ _ h), e2, k _ _ _ _ q (Ex.refl _) I rv⟩
  · obtain ⟨d, e, q⟩ := q
    obtain ⟨a, ws, rfl, h, r⟩ := rx.tup_inv
    obtain ⟨v, e2, rv⟩ := r.atI e
    exact .inr (.inl ⟨a, ws, _, v, rfl, ry.int_inv, ex_t I.sub h, e2, k _ _ _ _ q (Ex.refl _) I rv⟩)
  · obtain ⟨z, c, e, q⟩ := q
    exact .inr (.inr ⟨_, _, c, rx.str_inv, ry.int_inv, z, e, k _ _ _ _ q (Ex.refl _) I .str⟩)
  · exact q.elim
theorem ed_ix (ha : PE X a (lE L A)) (hb : PE X b (lE L B)) (hK : L.K = X.K := by rfl) (hs : PlainIx b := by intro _ _; rfl) : PE X (.Subscript a b pos) (lE L (eBin dIx A B)) :=
  PE.weak (pe_ix ix_seq ha hb hs) fun _ _ _ => l_bin (by rw [← hK]; exact od_ix)
/-- an item of our own list, as it stands when the index is known -/
def eIxO (j : Nat) (B : DE) : DE := fun ρ P R => (∃ d, ρ[j]? = some (.o d) ∨ ρ[j]? = some (.m d)) ∧ B ρ (fun y ρ1 => ∃ i l d, y = .int i ∧ (ρ1[j]? = some (.o (.lst l)) ∨ ρ1[j]? = some (.m (.lst l))) ∧ atI l i = some d ∧ P d ρ1) R
theorem ed_ixO {j : Nat} (ha : PE X a (tVar j)) (hb : PE X b (lE L B)) (hK : L.K = X.K := by rfl) (hs : PlainIx b := by intro _ _; rfl) : PE X (.Subscript a b pos) (lE L (eIxO j B)) :=
  PE.weak (pe_ix ix_list ha hb hs) fun σ H Q ⟨m, H0, ρ, P, R, I, ⟨⟨d0, h0⟩, q⟩, k, x⟩ => by
    have hv : ∃ a, σ[j]? = some (some (.ref a)) := by
      rcases h0 with h0 | h0
      · obtain ⟨a, o, e1, _⟩ := I.sl j _ h0; exact ⟨a, e1⟩
      · obtain ⟨a, o, e1, _⟩ := I.sl j _ h0; exact ⟨a, e1⟩
    obtain ⟨a, ea⟩ := hv
    refine ⟨.ref a, ea, m, H0, ρ, _, R, I, q, fun y ρ1 vy H1 H1' ⟨i, l, d, ey, hl, ed, pd⟩ ex1 I1 ry => ?_, x⟩
    subst ey
    have ho : ∃ vs, H1' a = some (.lst vs) ∧ Reps L.K H1 vs l := by
      rcases hl with hl | hl
      · obtain ⟨a', o, e1, n, h, r, z⟩ := I1.sl j _ hl
        rw [ea] at e1; cases e1
        obtain ⟨vs, rfl, r⟩ := r.lst_inv
        exact ⟨vs, h, r⟩
      · obtain ⟨a', o, e1, n, h, r, z⟩ := I1.sl j _ hl
        rw [ea] at e1; cases e1
        obtain ⟨vs, rfl, r⟩ := r.lst_inv
        exact ⟨vs, h, r⟩
    obtain ⟨vs, h, r⟩ := ho
    obtain ⟨v, e2, rv⟩ := r.atI ed
    exact ⟨a, vs, i, v, rfl, ry.int_inv, SqL.of h, e2, k _ _ _ _ _ pd ex1 I1 rv⟩

/-! ### slices -/
def cutD (xs : List D) (lo hi : Option Int) : List D := (xs.drop (HT.sIx xs.length 0 lo)).take (HT.sIx xs.length xs.length hi - HT.sIx xs.length 0 lo)
theorem Reps.cut {K : PySem.W.Frag} {H : Hp} {vs : List V} {ds : List D} (h : Reps K H vs ds) (lo hi : Option Int) : Reps K H (cutV vs lo hi) (cutD ds lo hi) := by
  unfold cutV cutD
  rw [h.length]
  exact (h.drop _).take _
/-- a part of a slice: left out, or an int -/
abbrev DO := En → (Option Int → En → Prop) → XP → Prop
def lO (L : Li) (A : DO) : TO := fun σ H Q => ∃ (m : Fm) (H0 : Hp) (ρ : En) (P : Option Int → En → Prop) (R : XP), In L.K L.J m σ ρ H0 H ∧ A ρ P R ∧
  (∀ o ρ' H0' H', P o ρ' → Ex H0 H0' → In L.K L.J m σ ρ' H0' H' → Q o H') ∧ XW L m σ R
def oNo : DO := fun ρ P _ => P none ρ
def oIs (A : DE) : DO := fun ρ P R => A ρ (fun d ρ' => ∃ i, d = .int i ∧ P (some i) ρ') R
theorem od_no : PO X none (lO L oNo) := ⟨fun pins s σ H Q I ⟨m, H0, ρ, P, R, In, q, k, x⟩ => po_none.run pins s σ H Q I (k _ _ _ _ q (Ex.refl _) In)⟩
theorem od_is1 (h : PE X e (lE L A)) : PO X (some e) (lO L (oIs A)) := ⟨fun pins s σ H Q I ⟨m, H0, ρ, P, R, In, q, k, x⟩ => (po_some h).run pins s σ H Q I
  ⟨m, H0, ρ, _, R, In, q, fun d ρ' v H0' H' ⟨i, e, p⟩ ex I' r => by subst e; exact ⟨i, r.int_inv, k _ _ _ _ p ex I'⟩, x⟩⟩
def eSl (g : D → Option Int → Option Int → (D → Prop) → Prop) (A : DE) (lo hi : DO) : DE := fun ρ P R => A ρ (fun x ρ1 => lo ρ1 (fun l ρ2 => hi ρ2 (fun u ρ3 => g x l u fun z => P z ρ3) R) R) R
variable {lo hi : Option Expr} {Lo Hi : DO} {p2 : Pos}
/-- of a list (shared, or of nobody's who turns it meanwhile): a new list -/
def dSlL : D → Option Int → Option Int → (D → Prop) → Prop
  | .lst l, lo, hi, P => P (.lst (cutD l lo hi))
  | .scr ns, lo, hi, P => P (.lst (cutD (ns.map D.int) lo hi))
  | _, _, _, _ => False
theorem dSlL_inv {x : D} {lo hi : Option Int} {P : D → Prop} (h : dSlL x lo hi P) : (∃ l, x = .lst l ∧ P (.lst (cutD l lo hi))) ∨ ∃ ns : List Int, x = .scr ns ∧ P (.lst (cutD (ns.map D.int) lo hi)) := by
  cases x <;> first | exact .inl ⟨_, rfl, h⟩ | exact .inr ⟨_, rfl, h⟩ | exact (show False from h).elim
theorem ef_sl (ha : PE X a (lE L A)) (hl : PO X lo (lO L Lo)) (hh : PO X hi (lO L Hi)) (hK : L.K = X.K := by rfl) : PE X (.Subscript a (.Slice lo hi none p2) pos) (lF L (eSl dSlL A Lo Hi)) :=
  PE.weak (pe_slice sl_list ha hl hh) fun σ H Q ⟨m, H0, ρ, P, R, I, q, k, x⟩ => ⟨m, H0, ρ, _, R, I, q, fun dx ρ1 vx H1 H1' q1 ex1 I1 r1 =>
    ⟨m, H1, ρ1, _, R, I1, q1, fun l ρ2 H2 H2' q2 ex2 I2 => ⟨m, H2, ρ2, _, R, I2, q2, fun u ρ3 H3 H3' q3 ex3 I3 => by
      have r3 := r1.mono (ex2.trans ex3)
      have ex := (ex1.trans ex2).trans ex3
      rcases dSlL_inv q3 with ⟨l0, rfl, q3⟩ | ⟨ns, rfl, q3⟩
      · obtain ⟨a, ws, rfl, h, r⟩ := r3.lst_inv
        refine ⟨a, ws, rfl, SqL.of (I3.sub _ _ h), fun p hp => ?_⟩
        obtain ⟨I4, f⟩ := I3.fresh L.ok hp (o := .lst _) (d := .lst _) (r.cut l u)
        exact k _ _ _ _ _ q3 ex I4 f
      · obtain ⟨a, rfl, h⟩ := r3.scr_inv
        refine ⟨a, _, rfl, by rw [← hK]; exact ex_l I3.sub h, fun p hp => ?_⟩
        obtain ⟨I4, f⟩ := I3.fresh L.ok hp (o := .lst _) (d := .lst _) ((Reps.ints _).cut l u)
        exact k _ _ _ _ _ q3 ex I4 f, x⟩, x⟩, x⟩
def dSlT : D → Option Int → Option Int → (D → Prop) → Prop
  | .tup l, lo, hi, P => P (.tup (cutD l lo hi))
  | _, _, _, _ => False
theorem dSlT_inv {x : D} {lo hi : Option Int} {P : D → Prop} (h : dSlT x lo hi P) : ∃ l, x = .tup l ∧ P (.tup (cutD l lo hi)) := by
  cases x <;> first | exact ⟨_, rfl, h⟩ | exact (show False from h).elim
theorem cut_whole {l : List D} {lo hi : Option Int} (h : HT.sIx l.length 0 lo = 0 ∧ HT.sIx l.length l.length hi = l.length) : cutD l lo hi = l := by
  unfold cutD
  rw [h.1, h.2]; simp
theorem ed_slT (ha : PE X a (lE L A)) (hl : PO X lo (lO L Lo)) (hh : PO X hi (lO L Hi)) (hK : L.K = X.K := by rfl) : PE X (.Subscript a (.Slice lo hi none p2) pos) (lE L (eSl dSlT A Lo Hi)) :=
  PE.weak (pe_slice sl_tupA ha hl hh) fun σ H Q ⟨m, H0, ρ, P, R, I, q, k, x⟩ => ⟨m, H0, ρ, _, R, I, q, fun dx ρ1 vx H1 H1' q1 ex1 I1 r1 =>
    ⟨m, H1, ρ1, _, R, I1, q1, fun l ρ2 H2 H2' q2 ex2 I2 => ⟨m, H2, ρ2, _, R, I2, q2, fun u ρ3 H3 H3' q3 ex3 I3 => by
      have r3 := r1.mono (ex2.trans ex3)
      have ex := (ex1.trans ex2).trans ex3
      obtain ⟨l0, el, q4⟩ := dSlT_inv q3
      clear q3 q1 q2
      subst el
      obtain ⟨a, ws, rfl, h, r⟩ := r3.tup_inv
      refine ⟨a, ws, rfl, by rw [← hK]; exact ex_t I3.sub h, fun hw => ?_, fun hw p hp => ?_⟩
      · rw [r.length] at hw
        rw [cut_whole hw] at q4
        exact k _ _ _ _ _ q4 ex I3 (.tup h r)
      · exact k _ _ _ _ _ q4 (ex.trans (Ex.new (I3.free hp))) (I3.alloc L.ok hp) (.tup (SqT.of upd_same) ((r.cut l u).mono (Ex.new (I3.free hp)))), x⟩, x⟩, x⟩
/-- xs[::-1] -/
def dRev : D → (D → Prop) → Prop
  | .lst l, P => P (.lst l.reverse)
  | _, _ => False
theorem ef_rev {k : Nat} {p1 p3 : Pos} (ha : PE X a (lM L A)) (hK : L.K = X.K := by rfl) : PE X (.Subscript a (.Slice none none (some (.UnaryOp .USub (.Constant (.int 1) k p1) p2)) p3) pos) (lF L (eUn dRev A)) :=
  PE.weak (pe_revL ha) fun σ H Q ⟨m, H0, ρ, P, R, I, q, k, x⟩ => ⟨m, H0, ρ, _, R, I, q, fun dx ρ1 vx H1 H1' q1 ex1 I1 r1 => by
    unfold dRev at q1
    split at q1
    · obtain ⟨a, ws, rfl, h, r⟩ := r1.lst_inv I1.sub
      refine ⟨a, ws, rfl, SqL.of h, fun p hp => ?_⟩
      obtain ⟨I4, f⟩ := I1.fresh L.ok hp (o := .lst _) (d := .lst _) r.reverse
      exact k _ _ _ _ _ q1 ex1 I4 f
    · exact q1.elim, x⟩

/-! ### a field -/
theorem lookup_cons' {α : Type} (f g : Str) (y : α) (fs : List (Str × α)) : ((f, y) :: fs).lookup g = if g = f then some y else fs.lookup g := by
  by_cases h : g = f
  · subst h; simp [List.lookup]
  · have e : (g == f) = false := by simpa using h
    rw [if_neg h]; simp [List.lookup, e]
theorem lookup_rep {K : PySem.W.Frag} {H : Hp} {f : Str} {d : D} : ∀ {fvs : List (Str × V)} {fds : List (Str × D)}, fvs.map (·.1) = fds.map (·.1) → Reps K H (fvs.map (·.2)) (fds.map (·.2)) → fds.lookup f = some d → ∃ v, fvs.lookup f = some v ∧ Rep K H v d
  | [], [], _, _, e => by cases e
  | [], _ :: _, h, _, _ => by cases h
  | _ :: _, [], h, _, _ => by cases h
  | (n, v) :: fvs, (n', d') :: fds, h, r, e => by
    simp only [List.map_cons, List.cons.injEq] at h
    obtain ⟨rfl, h⟩ := h
    obtain ⟨r1, r2⟩ := Reps.uncons r
    rw [lookup_cons'] at e ⊢
    by_cases c : f = n
    · rw [if_pos c] at e ⊢
      cases e
      exact ⟨v, rfl, r1⟩
    · rw [if_neg c] at e ⊢
      exact lookup_rep h r2 e
def dFld (C : Addr) (f : Str) : D → (D → Prop) → Prop := fun x P => ∃ fs d, x = .obj C fs ∧ fs.lookup f = some d ∧ P d
theorem ed_fld {C : Addr} {f : Str} (c : Cls X.K C) (n : NoAttr X.K C f) (ha : PE X a (lM L A)) (hb : attributeBase a f X.env (eval a X.env) = eval a X.env := by rfl) : PE X (.Attribute a f pos) (lE L (eUn (dFld C f) A)) :=
  PE.weak (pe_fld ha hb) fun σ H Q ⟨m, H0, ρ, P, R, I, q, k, x⟩ => ⟨m, H0, ρ, _, R, I, q, fun dx ρ1 vx H1 H1' q1 ex1 I1 r1 => by
    obtain ⟨fs, d, rfl, e, p⟩ := q1
    obtain ⟨a, dx, fvs, rfl, h, h1, h2⟩ := r1.obj_inv I1.sub
    obtain ⟨v, e2, rv⟩ := lookup_rep h1 h2 e
    exact ⟨a, C, dx, fvs, v, rfl, h, c, n, e2, k _ _ _ _ _ p ex1 I1 rv⟩, x⟩

/-! ### isinstance -/
/-- of what type data is -/
def tyD : D → Option Value
  | .non => some (.type "NoneType")
  | .bl _ => some (.type "bool")
  | .int _ => some (.type "int")
  | .str _ => some (.type "str")
  | .lst _ => some (.type "list")
  | .tup _ => some (.type "tuple")
  | .dic _ => some (.type "dict")
  | .obj C _ => some (.ref C)
  | _ => none
/-- what isinstance asks of an own class -/
structure IsC (K : PySem.W.Frag) (C : Addr) : Prop where
  cl : Cls K C
  ha : PySem.W.findIn K (.ref C) "__class__" = some (some (.builtin "object.__class__"))
  hn : PySem.W.specialIn K (.builtin "object.__class__") "__get__" = some (some (.builtin "getset_descriptor.__get__"))
  htk : PySem.W.takesIn K (.builtin "object.__class__") = some true
  hm : PySem.W.mroIn K C (.type "object") = some true
theorem TyX.of {K : PySem.W.Frag} {H : Hp} {v : V} {d : D} {t : Value} (r : Rep K H v d) (e : tyD d = some t) (hc : ∀ C fs, d = .obj C fs → IsC K C) : TyX K H v t := by
  cases r with
  | non => cases e; exact .base .non
  | bl => cases e; exact .base (.bl _)
  | int => cases e; exact .base (.int _)
  | str => cases e; exact .base (.str _)
  | ty => cases e
  | glb => cases e
  | scr => cases e
  | lst h => cases e; exact .base (.lst h)
  | tup h =>
    cases e
    rcases h with (h | ⟨o, h⟩) | ⟨o, its, n, h, c, _⟩
    · exact .base (.tup h)
    · exact .fTuple h
    · exact .kTuple h c
  | dic h => cases e; exact .base (.dK h)
  | obj h =>
    cases e
    obtain ⟨cl, ha, hn, htk, hm⟩ := hc _ _ rfl
    exact .base (.ins h cl ha hn htk hm)
def clsD : D → Option Value
  | .ty n => some (.type n)
  | .glb a => some (.ref a)
  | _ => none
def dIsi (K : PySem.W.Frag) : D → D → (D → Prop) → Prop := fun x c P => (∀ C fs, x = .obj C fs → IsC K C) ∧ ∃ t b, tyD x = some t ∧ P (.bl b) ∧
  ((∃ u, clsD c = some u ∧ PySem.W.kitOne K t u = some b) ∨ ∃ cs us, c = .tup cs ∧ cs.map clsD = us.map some ∧ PySem.W.kitAny K t us = some b)
theorem paired_cls {K : PySem.W.Frag} {H : Hp} {vs : List V} {cs : List D} {us : List Value} (r : Reps K H vs cs) (e : cs.map clsD = us.map some) : Paired ClsV vs us := by
  induction vs generalizing cs us with
  | nil =>
    obtain rfl := r.nil_inv'
    cases us with
    | nil => exact .nil
    | cons u us => cases e
  | cons v vs ih =>
    obtain ⟨d, ds, rfl, h1, h2⟩ := r.cons_inv'
    cases us with
    | nil => cases e
    | cons u us =>
      simp only [List.map_cons, List.cons.injEq] at e
      refine .cons ?_ (ih h2 e.2)
      cases h1 <;> first | (have e1 := e.1; cases e1; exact .ty _) | (have e1 := e.1; cases e1; exact .own _) | (have e1 := e.1; cases e1)
def rIsiA (K : PySem.W.Frag) : List V → Hp → VK → Prop := fun xs H Q => rIsi K xs H Q ∨ rIsiT K xs H Q
theorem call_isiA : CallR X (.builtin "isinstance") (rIsiA X.K) := by
  intro pins s σ H vs us Q I r h
  rcases h with h | h
  · exact call_isi pins s σ H vs us Q I r h
  · exact call_isiT pins s σ H vs us Q I r h
/-- the second one a class, or a tuple that is written there -/
theorem ed_isi {c : Expr} (hm : X.mg "isinstance" = none) (ha : PE X a (lE L A)) (hb : PE X c (tC (.ty Ty))) (hK : L.K = X.K := by rfl) (hg : Gl X "isinstance" := by rfl)
    (h1 : starEach (a :: [c]) X.env = (false, eval a X.env) :: starEach [c] X.env := by rfl) (h2 : starEach (c :: []) X.env = (false, eval c X.env) :: starEach [] X.env := by rfl) (hpl : (backTo pos (starEach [c] X.env)).any (·.1) = false := by rfl) :
    PE X (.Call (.Name "isinstance" p) [a, c] [] pos) (lE L (eUn (fun x P => dIsi L.K x (.ty Ty) P) A)) :=
  PE.weak (pe_callB call_isiA hg hm (by decide +kernel) (pa_cons ha (pa_cons hb pa_nil h2) h1) (by decide) (by decide) h1 hpl) fun σ H Q ⟨m, H0, ρ, P, R, I, q, k, x⟩ =>
    ⟨m, H0, ρ, _, R, I, q, fun dx ρ1 vx H1 H1' ⟨hc, t, b, et, pb, z⟩ ex1 I1 r1 => by
      rcases z with ⟨u, eu, ko⟩ | ⟨cs, us, e, _⟩
      · cases eu
        refine .inl ⟨_, _, t, _, b, rfl, .ty Ty, ?_, by rw [← hK]; exact ko, k _ _ _ _ _ pb ex1 I1 .bl⟩
        rw [← hK]; exact TyX.of (r1.mono I1.sub) et hc
      · (cases e), x⟩
theorem ed_isiC {c : Expr} {C : Addr} (hm : X.mg "isinstance" = none) (ha : PE X a (lE L A)) (hb : PE X c (tC (.ref C))) (hK : L.K = X.K := by rfl) (hg : Gl X "isinstance" := by rfl)
    (h1 : starEach (a :: [c]) X.env = (false, eval a X.env) :: starEach [c] X.env := by rfl) (h2 : starEach (c :: []) X.env = (false, eval c X.env) :: starEach [] X.env := by rfl) (hpl : (backTo pos (starEach [c] X.env)).any (·.1) = false := by rfl) :
    PE X (.Call (.Name "isinstance" p) [a, c] [] pos) (lE L (eUn (fun x P => dIsi L.K x (.glb C) P) A)) :=
  PE.weak (pe_callB call_isiA hg hm (by decide +kernel) (pa_cons ha (pa_cons hb pa_nil h2) h1) (by decide) (by decide) h1 hpl) fun σ H Q ⟨m, H0, ρ, P, R, I, q, k, x⟩ =>
    ⟨m, H0, ρ, _, R, I, q, fun dx ρ1 vx H1 H1' ⟨hc, t, b, et, pb, z⟩ ex1 I1 r1 => by
      rcases z with ⟨u, eu, ko⟩ | ⟨cs, us, e, _⟩
      · cases eu
        refine .inl ⟨_, _, t, _, b, rfl, .own C, ?_, by rw [← hK]; exact ko, k _ _ _ _ _ pb ex1 I1 .bl⟩
        rw [← hK]; exact TyX.of (r1.mono I1.sub) et hc
      · (cases e), x⟩
theorem ed_isiT {es : List Expr} {k2 : Nat} {pt : Pos} {As : TA} {cs : List V} {us : List Value} (hm : X.mg "isinstance" = none) (ha : PE X a (lE L A)) (hes : PA X es (fun _ H Q => Q cs H)) (hcs : Paired ClsV cs us) (hl : cs.length ≤ sizeLine) (hK : L.K = X.K := by rfl) (hg : Gl X "isinstance" := by rfl)
    (h1 : starEach (a :: [.Tuple es k2 pt]) X.env = (false, eval a X.env) :: starEach [.Tuple es k2 pt] X.env := by rfl) (h2 : starEach (.Tuple es k2 pt :: []) X.env = (false, eval (.Tuple es k2 pt) X.env) :: starEach [] X.env := by rfl) (hpl : (backTo pos (starEach [.Tuple es k2 pt] X.env)).any (·.1) = false := by rfl) :
    PE X (.Call (.Name "isinstance" p) [a, .Tuple es k2 pt] [] pos) (lE L (eUn (fun x P => (∀ C fs, x = .obj C fs → IsC L.K C) ∧ ∃ t b, tyD x = some t ∧ P (.bl b) ∧ PySem.W.kitAny L.K t us = some b) A)) :=
  PE.weak (pe_callB call_isiA hg hm (by decide +kernel) (pa_cons ha (pa_cons (pe_tup hes) pa_nil h2) h1) (by decide) (by decide) h1 hpl) fun σ H Q ⟨m, H0, ρ, P, R, I, q, k, x⟩ =>
    ⟨m, H0, ρ, _, R, I, q, fun dx ρ1 vx H1 H1' ⟨hc, t, b, et, pb, z⟩ ex1 I1 r1 => by
      refine ⟨hl, fun tp htp => .inr ⟨_, tp, cs, t, us, b, rfl, upd_same, hcs, ?_, by rw [← hK]; exact z, ?_⟩⟩
      · rw [← hK]; exact TyX.of ((r1.mono I1.sub).mono (Ex.new htp)) et hc
      · exact k _ _ _ _ _ pb ex1 (I1.allocP L.ok htp) .bl, x⟩
end
end DV

set_option Elab.async false
set_option linter.all false
set_option maxRecDepth 100000
set_option maxHeartbeats 4000000
/-! DV: calls, statements, defs. -/
namespace DV
open PySem L2
/-- what is wanted behind a statement -/
structure Pn where
  nx : En → Prop
  rt : D → En → Prop
  bk : En → Prop := fun _ => False
  ct : En → Prop := fun _ => False
  xe : XP := fun _ _ => False
abbrev DS := En → Pn → Prop
structure LsK (L : Li) (m : Fm) (H0 : Hp) (P : Pn) (Dn : Ends) : Prop where
  nx : ∀ ρ' σ' H0' H', P.nx ρ' → Ex H0 H0' → In L.K L.J m σ' ρ' H0' H' → Dn.nx σ' H'
  rt : ∀ d ρ' σ' v H0' H', P.rt d ρ' → Ex H0 H0' → In L.K L.J m σ' ρ' H0' H' → Rep L.K H0' v d → Dn.rt v H'
  bk : ∀ ρ' σ' H0' H', P.bk ρ' → Ex H0 H0' → In L.K L.J m σ' ρ' H0' H' → Dn.bk σ' H'
  ct : ∀ ρ' σ' H0' H', P.ct ρ' → Ex H0 H0' → In L.K L.J m σ' ρ' H0' H' → Dn.ct σ' H'
  xe : ∀ x ρ' σ' c dd H0' H', P.xe x ρ' → In L.K L.J m σ' ρ' H0' H' → XRep L.K H0' H' c dd x → L.W c dd σ' H'
theorem LsK.mono {L : Li} {m : Fm} {H0 H1 : Hp} {P : Pn} {Dn : Ends} (k : LsK L m H0 P Dn) (e : Ex H0 H1) : LsK L m H1 P Dn :=
  ⟨fun ρ σ a b p ex => k.nx ρ σ a b p (e.trans ex), fun d ρ σ v a b p ex => k.rt d ρ σ v a b p (e.trans ex), fun ρ σ a b p ex => k.bk ρ σ a b p (e.trans ex), fun ρ σ a b p ex => k.ct ρ σ a b p (e.trans ex), k.xe⟩
def lS (L : Li) (B : DS) : TS := fun Dn σ H => ∃ (m : Fm) (H0 : Hp) (ρ : En) (P : Pn), In L.K L.J m σ ρ H0 H ∧ B ρ P ∧ LsK L m H0 P Dn

section
variable {X : Cx} {L : Li} {e a b : Expr} {A B : DE} {T U : DT} {S1 S2 : DS} {pos : Pos} {st : Stmt} {rest sts : List Stmt}
theorem LsK.xw {m : Fm} {H0 : Hp} {P : Pn} {Dn : Ends} (k : LsK L m H0 P Dn) (σ : St) : XW L m σ P.xe := fun x ρ' c dd H0' H' p I r => k.xe x ρ' σ c dd H0' H' p I r
/-! ### blocks -/
def sNx : DS := fun ρ P => P.nx ρ
def sSeq (S1 S2 : DS) : DS := fun ρ P => S1 ρ { P with nx := fun ρ' => S2 ρ' P }
theorem sd_nil : PSs X [] (lS L sNx) := PSs.weak pss_nil fun Dn σ H ⟨m, H0, ρ, P, I, q, k⟩ => k.nx ρ σ H0 H q (Ex.refl _) I
theorem sd_cons (h1 : PS X st (lS L S1)) (h2 : PSs X rest (lS L S2)) : PSs X (st :: rest) (lS L (sSeq S1 S2)) :=
  PSs.weak (pss_cons h1 h2) fun Dn σ H ⟨m, H0, ρ, P, I, q, k⟩ => ⟨m, H0, ρ, _, I, q, { k with
    nx := fun ρ' σ' H0' H' p ex I' => ⟨m, H0', ρ', P, I', p, k.mono ex⟩ }⟩
theorem sd_one (h1 : PS X st (lS L S1)) : PSs X [st] (lS L S1) := pss_one h1
/-- code that is never reached -/
def sNo : DS := fun _ _ => False
theorem sd_no : PS X st (lS L sNo) := PS.weak ps_never fun Dn σ H ⟨m, H0, ρ, P, I, q, k⟩ => q
theorem sds_no : PSs X sts (lS L sNo) := PSs.weak pss_never fun Dn σ H ⟨m, H0, ρ, P, I, q, k⟩ => q
theorem sd_pass : PS X (.Pass pos) (lS L sNx) := PS.weak ps_pass fun Dn σ H ⟨m, H0, ρ, P, I, q, k⟩ => k.nx ρ σ H0 H q (Ex.refl _) I
def sBk : DS := fun ρ P => P.bk ρ
def sCt : DS := fun ρ P => P.ct ρ
theorem sd_break : PS X (.Break pos) (lS L sBk) := PS.weak ps_break fun Dn σ H ⟨m, H0, ρ, P, I, q, k⟩ => k.bk ρ σ H0 H q (Ex.refl _) I
theorem sd_cont : PS X (.Continue pos) (lS L sCt) := PS.weak ps_continue fun Dn σ H ⟨m, H0, ρ, P, I, q, k⟩ => k.ct ρ σ H0 H q (Ex.refl _) I
/-- our own object in slot i becomes shared ahead of the statement -/
def sFz (i : Nat) (S : DS) : DS := fun ρ P => ∃ d, ρ[i]? = some (.o d) ∧ S (ρ.set i (.s d)) P
theorem l_fz {i : Nat} {Dn : Ends} {σ : St} {H : Hp} (h : lS L (sFz i S1) Dn σ H) : lS L S1 Dn σ H := by
  obtain ⟨m, H0, ρ, P, I, ⟨d, e, q⟩, k⟩ := h
  obtain ⟨H0', ex, I'⟩ := I.freeze e
  exact ⟨m, H0', _, P, I', q, k.mono ex⟩
theorem sd_fz {i : Nat} (h : PS X st (lS L S1)) : PS X st (lS L (sFz i S1)) := PS.weak h fun _ _ _ => l_fz
theorem sds_fz {i : Nat} (h : PSs X sts (lS L S1)) : PSs X sts (lS L (sFz i S1)) := PSs.weak h fun _ _ _ => l_fz
/-! ### small statements -/
def sEx (A : DE) : DS := fun ρ P => A ρ (fun _ ρ' => P.nx ρ') P.xe
theorem sd_expr (h : PE X e (lE L A)) (hs : swapsWith e none pos.line X.env = pure false := by rfl) : PS X (.Expr e pos) (lS L (sEx A)) :=
  PS.weak (ps_expr h hs) fun Dn σ H ⟨m, H0, ρ, P, I, q, k⟩ => ⟨m, H0, ρ, _, _, I, q, fun d ρ' v H0' H' p ex I' r => k.nx ρ' σ H0' H' p ex I', k.xw σ⟩
def sRet (A : DE) : DS := fun ρ P => A ρ (fun d ρ' => P.rt d ρ') P.xe
theorem sd_ret (h : PE X e (lE L A)) : PS X (.Return (some e) pos) (lS L (sRet A)) :=
  PS.weak (ps_ret h) fun Dn σ H ⟨m, H0, ρ, P, I, q, k⟩ => ⟨m, H0, ρ, _, _, I, q, fun d ρ' v H0' H' p ex I' r => k.rt d ρ' σ v H0' H' p ex I' r, k.xw σ⟩
def sRetN : DS := fun ρ P => P.rt .non ρ
theorem sd_retN : PS X (.Return none pos) (lS L sRetN) := PS.weak ps_retN fun Dn σ H ⟨m, H0, ρ, P, I, q, k⟩ => k.rt .non ρ σ .non H0 H q (Ex.refl _) I .non
def sIf (T : DT) (S1 S2 : DS) : DS := fun ρ P => T ρ (fun b ρ' => if b = true then S1 ρ' P else S2 ρ' P) P.xe
theorem sd_if {c : Expr} {as bs : List Stmt} (hc : PT X c (lT L T)) (ha : PSs X as (lS L S1)) (hb : PSs X bs (lS L S2)) : PS X (.If c as bs pos) (lS L (sIf T S1 S2)) :=
  PS.weak (ps_if hc ha hb) fun Dn σ H ⟨m, H0, ρ, P, I, q, k⟩ => ⟨m, H0, ρ, _, _, I, q, fun b ρ' H0' H' p ex I' => by
    cases b with
    | true =>
      rw [if_pos rfl] at p ⊢
      exact ⟨m, H0', ρ', P, I', p, k.mono ex⟩
    | false =>
      rw [if_neg Bool.false_ne_true] at p ⊢
      exact ⟨m, H0', ρ', P, I', p, k.mono ex⟩, k.xw σ⟩
def sSet (i : Nat) (A : DE) : DS := fun ρ P => A ρ (fun d ρ' => P.nx (ρ'.set i (.s d))) P.xe
def sSetO (i : Nat) (A : DE) : DS := fun ρ P => A ρ (fun d ρ' => P.nx (ρ'.set i (.o d))) P.xe
variable {i : Nat} {x : Str} {pos' : Pos}
theorem sd_set (hN : X.N.Nodup) (he : PE X e (lE L A)) (hi : X.N[i]? = some x := by rfl) (hx : Loc X.env.scope x := by first | exact .inl rfl | exact .inr rfl) (hs : swapsWith e (some (.Name x pos')) pos.line X.env = pure false := by rfl)
    (hf : X.fn x = true ∨ X.env.scope.names.lookup x = some .local := by first | exact .inl rfl | exact .inr rfl) : PS X (.Assign [.Name x pos'] e pos) (lS L (sSet i A)) :=
  PS.weak (ps_set hN hi hx he hs hf) fun Dn σ H ⟨m, H0, ρ, P, I, q, k⟩ => ⟨m, H0, ρ, _, _, I, q, fun d ρ' v H0' H' p ex I' r => k.nx _ _ _ _ p ex (I'.set_s r), k.xw σ⟩
theorem sd_setO (hN : X.N.Nodup) (he : PE X e (lF L A)) (hi : X.N[i]? = some x := by rfl) (hx : Loc X.env.scope x := by first | exact .inl rfl | exact .inr rfl) (hs : swapsWith e (some (.Name x pos')) pos.line X.env = pure false := by rfl)
    (hf : X.fn x = true ∨ X.env.scope.names.lookup x = some .local := by first | exact .inl rfl | exact .inr rfl) : PS X (.Assign [.Name x pos'] e pos) (lS L (sSetO i A)) :=
  PS.weak (ps_set hN hi hx he hs hf) fun Dn σ H ⟨m, H0, ρ, P, I, q, k⟩ => ⟨m, H0, ρ, _, _, I, q, fun d ρ' a H0' H' p ex I' f => k.nx _ _ _ _ p ex (I'.set_o f), k.xw σ⟩

/-! ### what a def promises of data: of shared arguments; of a first one of our own -/
abbrev DSp := List D → (D → D → Prop) → (DX → D → Prop) → Prop
def spP (K : PySem.W.Frag) (J : Hp → Prop) (sp : DSp) : Sp := fun vs H Q E => ∃ (H0 : Hp) (ds : List D) (P : D → D → Prop) (R : DX → D → Prop), Ex H0 H ∧ J H ∧ Reps K H0 vs ds ∧ sp ds P R ∧
  (∀ d d0 v H0' H', P d d0 → Stp J none H0 H H0' H' → Rep K H0' v d → Q v H') ∧ (∀ x d0 c dd H0' H', R x d0 → Stp J none H0 H H0' H' → XRep K H0' H' c dd x → E c dd H')
def spO (K : PySem.W.Frag) (J : Hp → Prop) (sp : DSp) : Sp := fun vs H Q E => ∃ (H0 : Hp) (a : Addr) (us : List V) (d0 : D) (ds : List D) (P : D → D → Prop) (R : DX → D → Prop), vs = .ref a :: us ∧ Ex H0 H ∧ J H ∧ OwnAt K H0 H a d0 ∧ Reps K H0 us ds ∧ sp (d0 :: ds) P R ∧
  (∀ d d1 v H0' H', P d d1 → Stp J (some a) H0 H H0' H' → OwnAt K H0' H' a d1 → Rep K H0' v d → Q v H') ∧ (∀ x d1 c dd H0' H', R x d1 → Stp J (some a) H0 H H0' H' → OwnAt K H0' H' a d1 → XRep K H0' H' c dd x → E c dd H')
theorem slot_app {α : Type} (l : List α) (n : Nat) (y : α) (i : Nat) (z : α) (h : (l ++ List.replicate n y)[i]? = some z) : l[i]? = some z ∨ z = y := by
  by_cases c : i < l.length
  · rw [List.getElem?_append_left c] at h; exact .inl h
  · rw [List.getElem?_append_right (by omega)] at h
    right
    have hm := List.mem_of_getElem? h
    exact List.eq_of_mem_replicate hm
section
variable {P : Program} {w : World} {K : PySem.W.Frag} {J : Hp → Prop} (ok : JOk J) {mg : Str → Option Value} {base : Heap} {qual : Str} {st : Stmt} {f : Addr} {fd : FuncData} {N ps : List Str} {k : Nat} {sp : DSp}
def en0 (N : List Str) (ds : List D) : En := ds.map .s ++ List.replicate (N.length - ds.length) .e
def en1 (N : List Str) (d0 : D) (ds : List D) : En := .m d0 :: ds.map .s ++ List.replicate (N.length - (ds.length + 1)) .e
theorem in_start {H0 H : Hp} {vs : List V} {ds : List D} (e : Ex H0 H) (j : J H) (r : Reps K H0 vs ds) : In K J { He0 := H0, He := H, M := none } (L2.start N vs) (en0 N ds) H0 H := by
  have hl := r.length
  refine ⟨Stp.refl e, j, fun a h => (by cases h), by simp [L2.start, en0, hl], fun i sl h => ?_, fun i j d d' h => ?_, fun i j d d' h => ?_, fun p hp => (by cases hp)⟩
  · rcases slot_app _ _ _ _ _ h with h | h
    · rw [List.getElem?_map] at h
      cases q : ds[i]? with
      | none => rw [q] at h; cases h
      | some d =>
        rw [q] at h; cases h
        obtain ⟨v, hv, rv⟩ := r.get q
        refine ⟨v, ?_, rv⟩
        unfold L2.start
        rw [List.getElem?_append_left (by rw [List.length_map]; exact (List.getElem?_eq_some_iff.mp hv).1), List.getElem?_map, hv]; rfl
    · subst h; trivial
  · rcases slot_app _ _ _ _ _ h with h | h
    · rw [List.getElem?_map] at h
      cases q : ds[i]? <;> (rw [q] at h; cases h)
    · cases h
  · rcases slot_app _ _ _ _ _ h with h | h
    · rw [List.getElem?_map] at h
      cases q : ds[i]? <;> (rw [q] at h; cases h)
    · cases h
theorem in_startO {H0 H : Hp} {a : Addr} {us : List V} {d0 : D} {ds : List D} (e : Ex H0 H) (j : J H) (ow : OwnAt K H0 H a d0) (r : Reps K H0 us ds) : In K J { He0 := H0, He := H, M := some a } (L2.start N (.ref a :: us)) (en1 N d0 ds) H0 H := by
  have hl := r.length
  obtain ⟨n0, o, h0, r0⟩ := ow
  have key : ∀ (i : Nat) sl, (en1 N d0 ds)[i]? = some sl → (i = 0 ∧ sl = .m d0) ∨ (∃ k d, i = k + 1 ∧ ds[k]? = some d ∧ sl = .s d) ∨ sl = .e := fun i sl h => by
    rcases slot_app _ _ _ _ _ h with h | h
    · cases i with
      | zero => cases h; exact .inl ⟨rfl, rfl⟩
      | succ i =>
        rw [List.getElem?_cons_succ, List.getElem?_map] at h
        cases q : ds[i]? with
        | none => rw [q] at h; cases h
        | some d => rw [q] at h; cases h; exact .inr (.inl ⟨i, d, rfl, q, rfl⟩)
    · exact .inr (.inr h)
  refine ⟨Stp.refl e, j, fun b h => (by cases h; show H a ≠ none; rw [h0]; simp), by simp [L2.start, en1, hl], fun i sl h => ?_, fun i j d d' h => ?_, fun i j d d' h h' => ?_, fun p hp => (by cases hp)⟩
  · rcases key i sl h with ⟨rfl, rfl⟩ | ⟨k, d, rfl, q, rfl⟩ | rfl
    · exact ⟨a, o, rfl, n0, h0, r0, rfl⟩
    · obtain ⟨v, hv, rv⟩ := r.get q
      refine ⟨v, ?_, rv⟩
      unfold L2.start
      rw [List.map_cons, List.cons_append, List.getElem?_cons_succ, List.getElem?_append_left (by rw [List.length_map]; exact (List.getElem?_eq_some_iff.mp hv).1), List.getElem?_map, hv]; rfl
    · trivial
  · rcases key i _ h with ⟨rfl, h⟩ | ⟨k, d, rfl, q, h⟩ | h <;> cases h
  · rcases key i _ h with ⟨rfl, h⟩ | ⟨k, d, rfl, q, h⟩ | h <;> rcases key j _ h' with ⟨rfl, h'⟩ | ⟨k', d', rfl, q', h'⟩ | h' <;> first | rfl | (cases h; done) | (cases h'; done)
/-- the lift within a def -/
abbrev liF (K : PySem.W.Frag) (J : Hp → Prop) (ok : JOk J) (E : XK) : Li := ⟨K, J, ok, fun c d _ H => E c d H⟩
theorem okP (F : Fun K x qual st f fd) (S : FnScope N ps (defScope st)) (len : ∀ ds P R, sp ds P R → ds.length = ps.length)
    (hbody : ∀ (cdv : Value) (A : Around) (outer : List Env) (s : Shared) (H : Hp) (E : XK), Room k (A.deeper (PyProof.Rows.envOfC qual (defScope st) s.heap.objs.size f cdv)) →
      ∃ B, PSs (cxOf (L2.CX P w) P w K mg base N qual (defScope st) f cdv A outer s H E) (defBody st) (lS (liF K J ok E) B) ∧ ∀ ds (Po : D → D → Prop) (R : DX → D → Prop), sp ds Po R → B (en0 N ds) { nx := fun _ => Po .non .non, rt := fun d _ => Po d .non, xe := fun y _ => R y .non }) :
    FnOk P w K mg base (L2.CX P w) (k + 1) f fd ps (spP K J sp) := by
  refine F.okX S (fun vs H Q E ⟨H0, ds, Po, R, e, j, r, q, k1, k2⟩ => r.length.trans (len _ _ _ q)) (fun cdv A outer s H vs Q E hr ⟨H0, ds, Po, R, e, j, r, q, k1, k2⟩ => ?_)
  obtain ⟨B, hB, hb⟩ := hbody cdv A outer s H E hr
  refine ⟨_, hB, { He0 := H0, He := H, M := none }, H0, en0 N ds, _, in_start e j r, hb ds Po R q, ?_⟩
  exact ⟨fun ρ' σ' H0' H' p ex I => k1 .non .non .non H0' H' p I.st .non, fun d ρ' σ' v H0' H' p ex I r => k1 d .non v H0' H' p I.st r, fun _ _ _ _ p => p.elim, fun _ _ _ _ p => p.elim, fun y ρ' σ' c dd H0' H' p I r => k2 y .non c dd H0' H' p I.st r⟩
/-- slot 0 still holds our own object, as d1 -/
def own0 (ρ : En) (d1 : D) : Prop := ∃ i : Nat, ρ[i]? = some (.m d1)
theorem In.own0 {m : Fm} {σ : St} {ρ : En} {H0 H : Hp} {a : Addr} {d1 : D} (I : In K J m σ ρ H0 H) (hm : m.M = some a) (h : own0 ρ d1) : OwnAt K H0 H a d1 := by
  obtain ⟨i, h⟩ := h
  obtain ⟨b, o, e1, n, q, r, z⟩ := I.sl i _ h
  rw [hm] at z; cases z
  exact ⟨n, o, q, r⟩
theorem okO (F : Fun K x qual st f fd) (S : FnScope N ps (defScope st)) (len : ∀ ds P R, sp ds P R → ds.length = ps.length)
    (hbody : ∀ (cdv : Value) (A : Around) (outer : List Env) (s : Shared) (H : Hp) (E : XK), Room k (A.deeper (PyProof.Rows.envOfC qual (defScope st) s.heap.objs.size f cdv)) →
      ∃ B, PSs (cxOf (L2.CX P w) P w K mg base N qual (defScope st) f cdv A outer s H E) (defBody st) (lS (liF K J ok E) B) ∧ ∀ d0 ds (Po : D → D → Prop) (R : DX → D → Prop), sp (d0 :: ds) Po R →
        B (en1 N d0 ds) { nx := fun ρ => ∃ d1, own0 ρ d1 ∧ Po .non d1, rt := fun d ρ => ∃ d1, own0 ρ d1 ∧ Po d d1, xe := fun y ρ => ∃ d1, own0 ρ d1 ∧ R y d1 }) :
    FnOk P w K mg base (L2.CX P w) (k + 1) f fd ps (spO K J sp) := by
  refine F.okX S (fun vs H Q E ⟨H0, a, us, d0, ds, Po, R, ev, e, j, ow, r, q, k1, k2⟩ => by rw [ev, List.length_cons, r.length]; exact len _ _ _ q) (fun cdv A outer s H vs Q E hr ⟨H0, a, us, d0, ds, Po, R, ev, e, j, ow, r, q, k1, k2⟩ => ?_)
  subst ev
  obtain ⟨B, hB, hb⟩ := hbody cdv A outer s H E hr
  refine ⟨_, hB, { He0 := H0, He := H, M := some a }, H0, en1 N d0 ds, _, in_startO e j ow r, hb d0 ds Po R q, ?_⟩
  exact ⟨fun ρ' σ' H0' H' ⟨d1, o, p⟩ ex I => k1 .non d1 .non H0' H' p I.st (I.own0 rfl o) .non, fun d ρ' σ' v H0' H' ⟨d1, o, p⟩ ex I r => k1 d d1 v H0' H' p I.st (I.own0 rfl o) r, fun _ _ _ _ p => p.elim, fun _ _ _ _ p => p.elim,
    fun y ρ' σ' c dd H0' H' ⟨d1, o, p⟩ I r => k2 y d1 c dd H0' H' p I.st (I.own0 rfl o) r⟩
end

/-! ### calls -/
variable {k : Nat} {f C : Addr} {fd : FuncData} {ps : List Str} {sp : DSp} {p apos : Pos} {As : DA} {es : List Expr} {n : Str}
def eCall (sp : DSp) (As : DA) : DE := fun ρ P R => As ρ (fun ds ρ1 => sp ds (fun d _ => P d ρ1) (fun x _ => R x ρ1)) R
theorem ed_call (F : FnOk X.prog X.w X.K X.mg X.base (L2.CX X.prog X.w) k f fd ps (spP L.K L.J sp)) (hr : Room k X.A) (hm : X.mg x = some (.ref f)) (hk : PySem.W.keepIn X.K (.ref f) = true) (hb : Binds X.K fd ps []) (tk : Takes X L.W) (ha : PA X (e :: es) (lA L As))
    (hg : Gl X x := by rfl) (hdb : (x == ("__debug__" : Str)) = false := by decide) (he : starEach (e :: es) X.env = (false, eval e X.env) :: starEach es X.env := by rfl) (hpl : (backTo pos (starEach es X.env)).any (·.1) = false := by rfl) :
    PE X (.Call (.Name x p) (e :: es) [] pos) (lE L (eCall sp As)) :=
  PE.weak (pe_callSD (E := fun σ c d H => L.W c d σ H) F hr hg hm hk hb .nil (fun σ => passAt tk σ) ha hdb he hpl) fun σ H Q ⟨m, H0, ρ, P, R, I, q, k, x⟩ => ⟨m, H0, ρ, _, R, I, q, fun ds ρ1 vs H1 H1' q1 ex1 I1 r1 => by
    refine ⟨H1, ds, _, _, I1.sub, I1.j, by rw [List.append_nil]; exact r1, q1, fun d d0 v H0' H' pd S r => k d ρ1 v H0' H' pd (ex1.trans S.sh) (I1.called S) r, fun y d0 c dd H0' H' pd S r => x y ρ1 c dd H0' H' pd (I1.called S) r⟩, x⟩
/-- the first argument our own object, in slot j -/
def eCallO (sp : DSp) (j : Nat) (As : DA) : DE := fun ρ P R => As ρ (fun ds ρ1 => ∃ d0, (ρ1[j]? = some (.o d0) ∧ sp (d0 :: ds) (fun d d1 => P d (ρ1.set j (.o d1))) (fun x d1 => R x (ρ1.set j (.o d1)))) ∨ (ρ1[j]? = some (.m d0) ∧ sp (d0 :: ds) (fun d d1 => P d (ρ1.set j (.m d1))) (fun x d1 => R x (ρ1.set j (.m d1))))) R
theorem ed_callO {j : Nat} (F : FnOk X.prog X.w X.K X.mg X.base (L2.CX X.prog X.w) k f fd ps (spO L.K L.J sp)) (hr : Room k X.A) (hm : X.mg x = some (.ref f)) (hk : PySem.W.keepIn X.K (.ref f) = true) (hb : Binds X.K fd ps []) (tk : Takes X L.W) (hj : PE X e (tVar j)) (ha : PA X es (lA L As))
    (hg : Gl X x := by rfl) (hdb : (x == ("__debug__" : Str)) = false := by decide) (he : starEach (e :: es) X.env = (false, eval e X.env) :: starEach es X.env := by rfl) (hpl : (backTo pos (starEach es X.env)).any (·.1) = false := by rfl) :
    PE X (.Call (.Name x p) (e :: es) [] pos) (lE L (fun ρ P R => (∃ d0, ρ[j]? = some (.o d0) ∨ ρ[j]? = some (.m d0)) ∧ eCallO sp j As ρ P R)) :=
  PE.weak (pe_callSD (E := fun σ c d H => L.W c d σ H) F hr hg hm hk hb .nil (fun σ => passAt tk σ) (pa_cons hj ha he) hdb he hpl) fun σ H Q ⟨m, H0, ρ, P, R, I, ⟨⟨d00, h00⟩, q⟩, k, x⟩ => by
    have hv : ∃ a, σ[j]? = some (some (.ref a)) := by
      rcases h00 with h0 | h0
      · obtain ⟨a, o, e1, _⟩ := I.sl j _ h0; exact ⟨a, e1⟩
      · obtain ⟨a, o, e1, _⟩ := I.sl j _ h0; exact ⟨a, e1⟩
    obtain ⟨a, ea⟩ := hv
    refine ⟨.ref a, ea, m, H0, ρ, _, R, I, q, fun ds ρ1 vs H1 H1' ⟨d0, q1⟩ ex1 I1 r1 => ?_, x⟩
    rcases q1 with ⟨hd, q1⟩ | ⟨hd, q1⟩
    · obtain ⟨a', o, e1, n, h, r, z⟩ := I1.sl j _ hd
      rw [ea] at e1; cases e1
      exact ⟨H1, a, vs, d0, ds, _, _, by rw [List.append_nil], I1.sub, I1.j, ⟨n, o, h, r⟩, r1, q1, fun d d1 v H0' H' pd S ow r => k d _ v H0' H' pd (ex1.trans S.sh) (I1.calledO hd ea S ow) r, fun y d1 c dd H0' H' pd S ow r => x y _ c dd H0' H' pd (I1.calledO hd ea S ow) r⟩
    · obtain ⟨a', o, e1, n, h, r, z⟩ := I1.sl j _ hd
      rw [ea] at e1; cases e1
      exact ⟨H1, a, vs, d0, ds, _, _, by rw [List.append_nil], I1.sub, I1.j, ⟨n, o, h, r⟩, r1, q1, fun d d1 v H0' H' pd S ow r => k d _ v H0' H' pd (ex1.trans S.sh) (I1.calledM hd ea S ow) r, fun y d1 c dd H0' H' pd S ow r => x y _ c dd H0' H' pd (I1.calledM hd ea S ow) r⟩
/-- the wish does not lean on the slots -/
def WFlat (W : WX) : Prop := ∀ c d σ σ' H, W c d σ H → W c d σ' H
def eMake (C : Addr) (sp : DSp) (As : DA) : DE := fun ρ P R => As ρ (fun ds ρ1 => sp (.obj C [] :: ds) (fun d d1 => d = .non ∧ P d1 ρ1) (fun x _ => R x ρ1)) R
theorem ed_make (M : Mk X.K C f) (F : FnOk X.prog X.w X.K X.mg X.base (L2.CX X.prog X.w) k f fd ps (spO L.K L.J sp)) (hr : Room (k + 1) X.A) (hm : X.mg x = some (.ref C)) (hb : Binds X.K fd ps []) (tk : Takes X L.W) (hW : WFlat L.W) (ha : PA X (e :: es) (lA L As))
    (hg : Gl X x := by rfl) (hdb : (x == ("__debug__" : Str)) = false := by decide) (he : starEach (e :: es) X.env = (false, eval e X.env) :: starEach es X.env := by rfl) (hpl : (backTo pos (starEach es X.env)).any (·.1) = false := by rfl) :
    PE X (.Call (.Name x p) (e :: es) [] pos) (lE L (eMake C sp As)) :=
  PE.weak (pe_make (E := fun c d H => ∀ σ, L.W c d σ H) M F hr hg hm hb .nil (passes_call tk fun _ _ _ _ z => z _) ha hdb he hpl) fun σ H Q ⟨m, H0, ρ, P, R, I, q, k, x⟩ => ⟨m, H0, ρ, _, R, I, q, fun ds ρ1 vs H1 H1' q1 ex1 I1 r1 y dx ny ndx nyx => by
    have I2 := I1.allocP L.ok (o := .own y) ndx
    have ny2 : upd H1' dx (.own y) y = none := by rw [upd_ne (Ne.symm nyx)]; exact ny
    have I3 := I2.allocP L.ok (o := .ins C dx []) ny2
    refine ⟨H1, y, vs, .obj C [], ds, _, _, by rw [List.append_nil], I3.sub, I3.j, ⟨I1.free ny, _, upd_same, rfl, rfl, .nil⟩, r1, q1, fun d d1 v H0' H' ⟨ed, pd⟩ S ⟨n0, o, ho, ro⟩ r => ?_, fun z d1 c dd H0' H' pd S ow r σ' => ?_⟩
    · subst ed
      refine ⟨r.non_inv, ?_⟩
      have I4 := I3.calledA S (I1.fresh_new ny) (I1.ne_new ny) (fun g hg => ne_of_none (I1.gh g hg).2.1 ny)
      have I5 := I4.share ho n0 (I1.fresh_new ny) (I1.ne_new ny) (fun g hg => ne_of_none (I1.gh g hg).2.1 ny)
      exact k d1 ρ1 _ _ _ pd ((ex1.trans S.sh).trans (Ex.new n0)) I5 (ro.rep n0)
    · exact hW _ _ _ _ _ (x z ρ1 c dd H0' H' pd (I3.calledA S (I1.fresh_new ny) (I1.ne_new ny) (fun g hg => ne_of_none (I1.gh g hg).2.1 ny)) r), x⟩
/-- o.m(..), o shared -/
def eMeth (C : Addr) (n : Str) (sp : DSp) (A : DE) (As : DA) : DE := fun ρ P R => A ρ (fun y ρ1 => (∃ fs, y = .obj C fs ∧ fs.lookup n = none) ∧ As ρ1 (fun ds ρ2 => sp (y :: ds) (fun d _ => P d ρ2) (fun x _ => R x ρ2)) R) R
theorem lookup_none {K : PySem.W.Frag} {H : Hp} {n : Str} : ∀ {fvs : List (Str × V)} {fds : List (Str × D)}, fvs.map (·.1) = fds.map (·.1) → fds.lookup n = none → fvs.lookup n = none
  | [], _, _, _ => rfl
  | _ :: _, [], h, _ => by cases h
  | (m, v) :: fvs, (m', d') :: fds, h, e => by
    simp only [List.map_cons, List.cons.injEq] at h
    obtain ⟨rfl, h⟩ := h
    rw [lookup_cons'] at e ⊢
    by_cases c : n = m
    · rw [if_pos c] at e; cases e
    · rw [if_neg c] at e ⊢
      exact lookup_none (K := K) (H := H) h e
theorem ed_meth {pl : Sem Bool} {o : Expr} (c : Cls X.K C) (hm : Meth X.K C n f) (F : FnOk X.prog X.w X.K X.mg X.base (L2.CX X.prog X.w) k f fd ps (spP L.K L.J sp)) (hr : Room k X.A) (hb : Binds X.K fd ps []) (tk : Takes X L.W) (hW : WFlat L.W) (ho : PE X o (lE L A)) (ha : PA X (e :: es) (lA L As))
    (hst : starEach (e :: es) X.env = (false, eval e X.env) :: starEach es X.env := by rfl) (hpl : (backTo pos (starEach es X.env)).any (·.1) = false := by rfl)
    (ht : eval (.Call (.Attribute o n apos) (e :: es) [] pos) X.env = (do
      let ov ← eval o X.env
      standAt apos.atName
      let (f, first) ← holding [ov] (getMethod ov n pl)
      callWith pos f first (backTo pos (starEach (e :: es) X.env)) (backToKw pos (keywordEach [] X.env))) := by rfl) :
    PE X (.Call (.Attribute o n apos) (e :: es) [] pos) (lE L (eMeth C n sp A As)) :=
  PE.weak (pe_meth (E := fun c d H => ∀ σ, L.W c d σ H) ho c hm F hr hb .nil (passes_call tk fun _ _ _ _ z => z _) ha hst hpl ht) fun σ H Q ⟨m, H0, ρ, P, R, I, q, k, x⟩ => ⟨m, H0, ρ, _, R, I, q, fun y ρ1 vy H1 H1' ⟨⟨fs, ey, el⟩, q1⟩ ex1 I1 r1 => by
    subst ey
    obtain ⟨a, dx, fvs, rfl, h, h1, h2⟩ := r1.obj_inv
    refine ⟨a, dx, fvs, rfl, I1.sub _ _ h, lookup_none (K := L.K) (H := H1) h1 el, m, H1, ρ1, _, R, I1, q1, fun ds ρ2 vs H2 H2' q2 ex2 I2 r2 => ?_, x⟩
    exact ⟨H2, _, _, _, I2.sub, I2.j, by rw [List.append_nil]; exact .cons (r1.mono ex2) r2, q2, fun d d0 v H0' H' pd S r => k d ρ2 v H0' H' pd ((ex1.trans ex2).trans S.sh) (I2.called S) r, fun z d0 c dd H0' H' pd S r σ' => hW _ _ _ _ _ (x z ρ2 c dd H0' H' pd (I2.called S) r)⟩, x⟩
theorem ed_meth0 {pl : Sem Bool} {o : Expr} (c : Cls X.K C) (hm : Meth X.K C n f) (F : FnOk X.prog X.w X.K X.mg X.base (L2.CX X.prog X.w) k f fd ps (spP L.K L.J sp)) (hr : Room k X.A) (hb : Binds X.K fd ps []) (tk : Takes X L.W) (hW : WFlat L.W) (ho : PE X o (lE L A))
    (ht : eval (.Call (.Attribute o n apos) [] [] pos) X.env = (do
      let ov ← eval o X.env
      standAt apos.atName
      let (f, first) ← holding [ov] (getMethod ov n pl)
      callWith pos f first (backTo pos (starEach [] X.env)) (backToKw pos (keywordEach [] X.env))) := by rfl) :
    PE X (.Call (.Attribute o n apos) [] [] pos) (lE L (eMeth C n sp A aNil)) :=
  PE.weak (pe_meth0 (E := fun c d H => ∀ σ, L.W c d σ H) ho c hm F hr hb .nil (passes_call tk fun _ _ _ _ z => z _) ht) fun σ H Q ⟨m, H0, ρ, P, R, I, q, k, x⟩ => ⟨m, H0, ρ, _, R, I, q, fun y ρ1 vy H1 H1' ⟨⟨fs, ey, el⟩, q1⟩ ex1 I1 r1 => by
    subst ey
    obtain ⟨a, dx, fvs, rfl, h, h1, h2⟩ := r1.obj_inv
    refine ⟨a, dx, fvs, rfl, I1.sub _ _ h, lookup_none (K := L.K) (H := H1) h1 el, ?_⟩
    exact ⟨H1, [_], _, _, I1.sub, I1.j, by rw [List.append_nil]; exact r1, q1, fun d d0 v H0' H' pd S r => k d ρ1 v H0' H' pd (ex1.trans S.sh) (I1.called S) r, fun z d0 c dd H0' H' pd S r σ' => hW _ _ _ _ _ (x z ρ1 c dd H0' H' pd (I1.called S) r)⟩, x⟩
end
end DV

set_option Elab.async false
set_option linter.all false
set_option maxRecDepth 100000
set_option maxHeartbeats 4000000
/-! DV: targets, loops, comprehensions, our own lists. -/
namespace DV
open PySem L2

/-! ### targets -/
abbrev DG := D → En → (En → Prop) → Prop
/-- a target by values does what G says; it stores into the slots vs alone -/
def GD (K : PySem.W.Frag) (J : Hp → Prop) (vs : List Nat) (g : TG) (G : DG) : Prop :=
  ∀ {m : Fm} {σ : St} {ρ : En} {H0 H : Hp} {v : V} {d : D} {Po : En → Prop} {Q : St → Hp → Prop}, In K J m σ ρ H0 H → Rep K H0 v d → G d ρ Po →
    (∀ ρ' σ', Po ρ' → In K J m σ' ρ' H0 H → wipe σ' vs = wipe σ vs → Q σ' H) → g v σ H Q
def GsD (K : PySem.W.Frag) (J : Hp → Prop) (vs : List Nat) (g : TGs) (G : List D → En → (En → Prop) → Prop) : Prop :=
  ∀ {m : Fm} {σ : St} {ρ : En} {H0 H : Hp} {us : List V} {ds : List D} {Po : En → Prop} {Q : St → Hp → Prop}, In K J m σ ρ H0 H → Reps K H0 us ds → G ds ρ Po →
    (∀ ρ' σ', Po ρ' → In K J m σ' ρ' H0 H → wipe σ' vs = wipe σ vs → Q σ' H) → g us σ H Q
def gN (i : Nat) : DG := fun d ρ P => P (ρ.set i (.s d))
theorem wipe_set {σ : St} {i : Nat} {x : Option V} : ∀ {vs : List Nat}, i ∈ vs → wipe (σ.set i x) vs = wipe σ vs
  | j :: vs, h => by
    show (wipe (σ.set i x) vs).set j none = (wipe σ vs).set j none
    by_cases c : i ∈ vs
    · rw [wipe_set c]
    · have e : i = j := by
        rcases List.mem_cons.mp h with h | h
        · exact h
        · exact absurd h c
      subst e
      have key : ∀ (vs : List Nat) (τ : St), wipe (τ.set i x) vs = (wipe τ vs).set i x ∨ i ∈ vs := by
        intro vs
        induction vs with
        | nil => intro τ; exact .inl rfl
        | cons k ks ih =>
          intro τ
          by_cases e : i = k
          · exact .inr (by rw [e]; exact List.mem_cons_self)
          · rcases ih τ with q | q
            · left
              show (wipe (τ.set i x) ks).set k none = ((wipe τ ks).set k none).set i x
              rw [q, List.set_comm _ _ e]
            · exact .inr (List.mem_cons_of_mem _ q)
      rcases key vs σ with q | q
      · rw [q, List.set_set]
      · exact absurd q c
theorem wipe_app (σ : St) (vs : List Nat) (i : Nat) : (wipe σ vs)[i]? = if i ∈ vs ∧ i < σ.length then some none else σ[i]? := by
  by_cases c : i ∈ vs
  · by_cases hl : i < σ.length
    · rw [if_pos ⟨c, hl⟩]
      have h1 : i < (wipe σ vs).length := by rw [wipe_length]; exact hl
      cases q : (wipe σ vs)[i]? with
      | none => rw [List.getElem?_eq_none_iff] at q; omega
      | some z =>
        cases z with
        | none => rfl
        | some x => exact absurd c (wipe_some q).2
    · rw [if_neg (fun h => hl h.2), List.getElem?_eq_none (by rw [wipe_length]; omega), List.getElem?_eq_none (by omega)]
  · rw [if_neg (fun h => c h.1)]
    exact wipe_out c
theorem wipe_idem (σ : St) (vs : List Nat) : wipe (wipe σ vs) vs = wipe σ vs := by
  apply List.ext_getElem?
  intro i
  rw [wipe_app, wipe_length, wipe_app]
  by_cases c : i ∈ vs ∧ i < σ.length
  · rw [if_pos c, if_pos c]
  · rw [if_neg c, if_neg c]
theorem gd_name {K : PySem.W.Frag} {J : Hp → Prop} {vs : List Nat} {i : Nat} (hi : i ∈ vs) : GD K J vs (gName i) (gN i) := by
  intro m σ ρ H0 H v d Po Q I r q k
  exact k _ _ q (I.set_s r) (wipe_set hi)
def gsN : List Nat → List D → En → (En → Prop) → Prop
  | [], [], ρ, P => P ρ
  | i :: is, d :: ds, ρ, P => gsN is ds (ρ.set i (.s d)) P
  | _, _, _, _ => False
def gNames : List Nat → TGs
  | [] => gNil
  | i :: is => gCons (gName i) (gNames is)
theorem gsd_names {K : PySem.W.Frag} {J : Hp → Prop} {vs : List Nat} : ∀ {is : List Nat}, (∀ i ∈ is, i ∈ vs) → GsD K J vs (gNames is) (gsN is)
  | [], _ => by
    intro I r q k
    rename_i m σ ρ H0 H us ds Po Q _
    cases ds with
    | nil => obtain rfl := r.nil_inv; exact ⟨rfl, k _ _ q I rfl⟩
    | cons d ds => exact (show False from q).elim
  | i :: is, h => by
    intro I r q k
    rename_i m σ ρ H0 H us ds Po Q
    cases ds with
    | nil => exact (show False from q).elim
    | cons d ds =>
      obtain ⟨v, us', rfl, r1, r2⟩ := Reps.cons_inv r
      refine ⟨v, us', rfl, ?_⟩
      exact gsd_names (fun j hj => h j (List.mem_cons_of_mem _ hj)) (I.set_s (i := i) r1) r2 q fun ρ' σ' p I' w => k ρ' σ' p I' (w.trans (wipe_set (h i List.mem_cons_self)))
def gT (is : List Nat) : DG := fun d ρ P => ∃ ds, d = .tup ds ∧ ds.length = is.length ∧ gsN is ds ρ P
theorem gd_tup {K : PySem.W.Frag} {J : Hp → Prop} {vs : List Nat} {is : List Nat} {n : Nat} (hn : is.length = n) (h : ∀ i ∈ is, i ∈ vs) : GD K J vs (gTup K n (gNames is)) (gT is) := by
  intro m σ ρ H0 H v d Po Q I r q k
  obtain ⟨ds, rfl, hl, q⟩ := q
  obtain ⟨a, ws, rfl, hs, rs⟩ := r.tup_inv
  exact ⟨a, ws, rfl, ex_t I.sub hs, by rw [rs.length, hl, hn], gsd_names h I rs q k⟩

/-! ### what is walked -/
abbrev DI := En → (List D → En → Prop) → XP → Prop
/-- the iterator gives these data -/
def DW (K : PySem.W.Frag) (J : Hp → Prop) (G0 : List (Addr × HO)) (Jt : It) (ds : List D) (H0 : Hp) : Prop := ∃ (G : Hp → Prop) (Y : Nat → Hp → V → Hp → Prop), Walk Jt ds.length G Y ∧
  (∀ {m : Fm} {σ : St} {ρ : En} {H0' H' : Hp}, (∀ g ∈ G0, g ∈ m.G) → Ex H0 H0' → In K J m σ ρ H0' H' → G H') ∧
  (∀ {m : Fm} {σ : St} {ρ : En} {i : Nat} {H0' H H2 : Hp} {x : V}, (∀ g ∈ G0, g ∈ m.G) → i < ds.length → Ex H0 H0' → In K J m σ ρ H0' H → Y i H x H2 → ∃ H0'' d, Ex H0' H0'' ∧ In K J m σ ρ H0'' H2 ∧ ds[i]? = some d ∧ Rep K H0'' x d)
def lI (L : Li) (A : DI) : TI := fun σ H R => ∃ (m : Fm) (H0 : Hp) (ρ : En) (P : List D → En → Prop) (Rx : XP), In L.K L.J m σ ρ H0 H ∧ A ρ P Rx ∧
  (∀ ds ρ' H0' H' Jt, P ds ρ' → Ex H0 H0' → In L.K L.J m σ ρ' H0' H' → DW L.K L.J m.G Jt ds H0' → R Jt H') ∧ XW L m σ Rx
section
variable {X : Cx} {L : Li} {e a b tg : Expr} {A B : DE} {T U : DT} {S1 S2 : DS} {pos p : Pos} {st : Stmt} {rest sts : List Stmt} {As : DA} {Ii : DI}
theorem PI.weak {t t' : TI} (h : PI X tg e t) (w : ∀ σ H R, t' σ H R → t σ H R) : PI X tg e t' := ⟨fun pins s σ H R I q => h.run pins s σ H R I (w _ _ _ q)⟩
/-- a list (shared: nobody turns it meanwhile), a tuple -/
def iL (A : DE) : DI := fun ρ P R => A ρ (fun d ρ' => ∃ ds, d = .lst ds ∧ P ds ρ') R
def iT (A : DE) : DI := fun ρ P R => A ρ (fun d ρ' => ∃ ds, d = .tup ds ∧ P ds ρ') R
def iS (A : DE) : DI := fun ρ P R => A ρ (fun d ρ' => ∃ ns : List Int, d = .scr ns ∧ P (ns.map D.int) ρ') R
theorem dw_list {K : PySem.W.Frag} {J : Hp → Prop} {a : Addr} {ws : List V} {ds : List D} {H0 : Hp} {G0 : List (Addr × HO)} (h : SqL K H0 a ws) (r : Reps K H0 ws ds) : DW K J G0 (Itl K a) ds H0 := by
  refine ⟨fun H => SqL K H a ws, YAt ws, by rw [← r.length]; exact walk_list, fun _ ex I => ex_l (ex.trans I.sub) h, fun {m σ ρ i H0' H H2 x} _ hi ex I y => ?_⟩
  obtain ⟨e, y⟩ := y
  subst e
  obtain ⟨d, e2, rd⟩ := r.get' y
  exact ⟨H0', d, Ex.refl _, I, e2, rd.mono ex⟩
theorem dw_tup {K : PySem.W.Frag} {J : Hp → Prop} {a : Addr} {ws : List V} {ds : List D} {H0 : Hp} {G0 : List (Addr × HO)} (h : SqT K H0 a ws) (r : Reps K H0 ws ds) : DW K J G0 (Itt K a) ds H0 := by
  refine ⟨fun H => SqT K H a ws, YAt ws, by rw [← r.length]; exact walk_tup, fun _ ex I => ex_t (ex.trans I.sub) h, fun {m σ ρ i H0' H H2 x} _ hi ex I y => ?_⟩
  obtain ⟨e, y⟩ := y
  subst e
  obtain ⟨d, e2, rd⟩ := r.get' y
  exact ⟨H0', d, Ex.refl _, I, e2, rd.mono ex⟩
theorem id_l (h : PE X e (lE L A)) (hK : L.K = X.K := by rfl) : PI X tg e (lI L (iL A)) :=
  PI.weak (pi_list h) fun σ H Q ⟨m, H0, ρ, P, R, I, q, k, x⟩ => ⟨m, H0, ρ, _, R, I, q, fun d ρ' v H0' H' ⟨ds, ed, p⟩ ex I' r => by
    subst ed
    obtain ⟨a, ws, rfl, hs, rs⟩ := r.lst_inv
    exact ⟨a, rfl, ⟨ws, SqL.of (I'.sub _ _ hs)⟩, k ds ρ' H0' H' _ p ex I' (by rw [← hK]; exact dw_list (SqL.of hs) rs)⟩, x⟩
theorem id_s (h : PE X e (lE L A)) (hK : L.K = X.K := by rfl) : PI X tg e (lI L (iS A)) :=
  PI.weak (pi_list h) fun σ H Q ⟨m, H0, ρ, P, R, I, q, k, x⟩ => ⟨m, H0, ρ, _, R, I, q, fun d ρ' v H0' H' ⟨ds, ed, p⟩ ex I' r => by
    subst ed
    obtain ⟨a, rfl, hs⟩ := r.scr_inv
    exact ⟨a, rfl, ⟨_, by rw [← hK]; exact ex_l I'.sub hs⟩, k _ ρ' H0' H' _ p ex I' (by rw [← hK]; exact dw_list hs (Reps.ints _))⟩, x⟩
theorem id_t (h : PE X e (lE L A)) (hK : L.K = X.K := by rfl) : PI X tg e (lI L (iT A)) :=
  PI.weak (pi_tup h) fun σ H Q ⟨m, H0, ρ, P, R, I, q, k, x⟩ => ⟨m, H0, ρ, _, R, I, q, fun d ρ' v H0' H' ⟨ds, ed, p⟩ ex I' r => by
    subst ed
    obtain ⟨a, ws, rfl, hs, rs⟩ := r.tup_inv
    exact ⟨a, rfl, ⟨ws, by rw [← hK]; exact ex_t I'.sub hs⟩, k ds ρ' H0' H' _ p ex I' (by rw [← hK]; exact dw_tup hs rs)⟩, x⟩
/-- ranges -/
def rgD (lo : Int) (n : Nat) : List D := (List.range n).map fun k => D.int (lo + (k : Nat))
theorem dw_range {K : PySem.W.Frag} {J : Hp → Prop} {lo : Int} {n : Nat} {H0 : Hp} {G0 : List (Addr × HO)} : DW K J G0 (Itr lo n) (rgD lo n) H0 := by
  refine ⟨fun _ => True, YFn fun i => .int (lo + i), by simp only [rgD, List.length_map, List.length_range]; exact walk_range, fun _ _ _ => trivial, fun {m σ ρ i H0' H H2 x} _ hi ex I y => ?_⟩
  obtain ⟨e, y⟩ := y
  subst e; subst y
  simp only [rgD, List.length_map, List.length_range] at hi
  exact ⟨H0', .int (lo + (i : Nat)), Ex.refl _, I, by simp [rgD, hi], .int⟩
def iR1 (A : DE) : DI := fun ρ P R => A ρ (fun d ρ' => ∃ j : Int, d = .int j ∧ -(2 ^ 62) ≤ j ∧ j < 2 ^ 62 ∧ P (rgD 0 j.toNat) ρ') R
def iR2 (A B : DE) : DI := fun ρ P R => A ρ (fun d ρ1 => B ρ1 (fun d' ρ' => ∃ i j : Int, d = .int i ∧ d' = .int j ∧ (-(2 ^ 62) ≤ i ∧ i < 2 ^ 62 ∧ -(2 ^ 62) ≤ j ∧ j < 2 ^ 62) ∧ P (rgD i (j - i).toNat) ρ') R) R
theorem id_r1 (hm : X.mg "range" = none) (h : PE X a (lE L A)) (hg : Gl X "range" := by rfl) (hs : starEach [a] X.env = [(false, eval a X.env)] := by rfl) (h1 : starEach (a :: []) X.env = (false, eval a X.env) :: starEach [] X.env := by rfl) : PI X tg (.Call (.Name "range" p) [a] [] pos) (lI L (iR1 A)) :=
  PI.weak (pi_range1 hg hm (pa_cons h pa_nil h1) hs) fun σ H Q ⟨m, H0, ρ, P, R, I, q, k, x⟩ => ⟨m, H0, ρ, _, R, I, q, fun d ρ' v H0' H' ⟨j, ed, j1, j2, p⟩ ex I' r => by
    subst ed
    exact ⟨j, by rw [r.int_inv], j1, j2, k _ ρ' H0' H' _ p ex I' dw_range⟩, x⟩
theorem id_r2 (hm : X.mg "range" = none) (h : PE X a (lE L A)) (h' : PE X b (lE L B)) (hg : Gl X "range" := by rfl) (hs : starEach [a, b] X.env = [(false, eval a X.env), (false, eval b X.env)] := by rfl) (hs2 : starEach [b] X.env = [(false, eval b X.env)] := by rfl)
    (h1 : starEach (a :: [b]) X.env = (false, eval a X.env) :: starEach [b] X.env := by rfl) (h2 : starEach (b :: []) X.env = (false, eval b X.env) :: starEach [] X.env := by rfl) : PI X tg (.Call (.Name "range" p) [a, b] [] pos) (lI L (iR2 A B)) :=
  PI.weak (pi_range2 hg hm (pa_cons h (pa_cons h' pa_nil h2) h1) hs hs2) fun σ H Q ⟨m, H0, ρ, P, R, I, q, k, x⟩ => ⟨m, H0, ρ, _, R, I, q, fun d ρ1 v H1 H1' q1 ex1 I1 r1 =>
    ⟨m, H1, ρ1, _, R, I1, q1, fun d' ρ' v' H0' H' ⟨i, j, ed, ed', jj, p⟩ ex I' r => by
      subst ed; subst ed'
      exact ⟨i, j, by rw [r1.int_inv, r.int_inv], jj, k _ ρ' H0' H' _ p (ex1.trans ex) I' dw_range⟩, x⟩, x⟩
/-- enumerate of a list -/
def enD : Nat → List D → List D
  | _, [] => []
  | n, d :: ds => .tup [.int (n : Nat), d] :: enD (n + 1) ds
theorem enD_length (n : Nat) (ds : List D) : (enD n ds).length = ds.length := by
  induction ds generalizing n with
  | nil => rfl
  | cons d ds ih => simp [enD, ih]
theorem enD_get (n : Nat) (ds : List D) (i : Nat) : (enD n ds)[i]? = (ds[i]?).map fun d => D.tup [.int ((n + i : Nat) : Int), d] := by
  induction ds generalizing n i with
  | nil => simp [enD]
  | cons d ds ih =>
    cases i with
    | zero => simp [enD]
    | succ i =>
      rw [enD, List.getElem?_cons_succ, List.getElem?_cons_succ, ih]
      have : n + 1 + i = n + (i + 1) := by omega
      rw [this]
def iE (A : DE) : DI := fun ρ P R => A ρ (fun d ρ' => ∃ ds, d = .lst ds ∧ P (enD 0 ds) ρ') R
theorem dw_enum {K : PySem.W.Frag} {J : Hp → Prop} (hJ : JOk J) {a : Addr} {ws : List V} {ds : List D} {H0 : Hp} {G0 : List (Addr × HO)} (h : SqL K H0 a ws) (r : Reps K H0 ws ds) : DW K J G0 (Ite K a) (enD 0 ds) H0 := by
  refine ⟨fun H => SqL K H a ws, YPair (fun i => some (.int (i : Nat))) (fun i => ws[i]?), by rw [enD_length, ← r.length]; exact walk_enum, fun _ ex I => ex_l (ex.trans I.sub) h, fun {m σ ρ i H0' H H2 x} _ hi ex I y => ?_⟩
  obtain ⟨t, x1, y1, rfl, ht, rfl, e1, e2⟩ := y
  have e1 := Option.some.inj e1
  subst e1
  obtain ⟨d, e3, rd⟩ := r.get' e2
  have nx : Ex H0' (upd H0' t (.tup [.int (i : Nat), y1])) := Ex.new (I.free ht)
  refine ⟨upd H0' t (.tup [.int (i : Nat), y1]), .tup [.int (i : Nat), d], nx, I.alloc hJ ht, ?_, .tup (SqT.of upd_same) (.int ((rd.mono ex).mono nx))⟩
  rw [enD_get, e3]; simp
theorem id_e {elts : List Expr} {kk : Nat} {tpos : Pos} (hm : X.mg "enumerate" = none) (h : PE X a (lE L A)) (hK : L.K = X.K := by rfl) (hg : Gl X "enumerate" := by rfl) (hs : starEach [a] X.env = [(false, eval a X.env)] := by rfl) (h1 : starEach (a :: []) X.env = (false, eval a X.env) :: starEach [] X.env := by rfl) :
    PI X (.Tuple elts kk tpos) (.Call (.Name "enumerate" p) [a] [] pos) (lI L (iE A)) :=
  PI.weak (pi_enum hg hm (pa_cons h pa_nil h1) hs) fun σ H Q ⟨m, H0, ρ, P, R, I, q, k, x⟩ => ⟨m, H0, ρ, _, R, I, q, fun d ρ' v H0' H' ⟨ds, ed, p⟩ ex I' r => by
    subst ed
    obtain ⟨a, ws, rfl, hs, rs⟩ := r.lst_inv
    exact ⟨a, ws, rfl, by rw [← hK]; exact SqL.of (I'.sub _ _ hs), k _ ρ' H0' H' _ p ex I' (by rw [← hK]; exact dw_enum L.ok (SqL.of hs) rs)⟩, x⟩

/-! ### for -/
def forD (G : DG) (S : DS) : List D → En → Pn → Prop
  | [], ρ, P => P.nx ρ
  | x :: xs, ρ, P => G x ρ fun ρ1 => S ρ1 { P with nx := fun ρ2 => forD G S xs ρ2 P, ct := fun ρ2 => forD G S xs ρ2 P, bk := P.nx }
def sFor (Ii : DI) (G : DG) (S : DS) : DS := fun ρ P => Ii ρ (fun ds ρ1 => forD G S ds ρ1 P) P.xe
theorem sd_for {g : TG} {G : DG} {vs : List Nat} {body : List Stmt} (hp : PassesOwn (model X.prog X.w) X.A X.env X.xe) (hc : X.calm = true) (hi : PI X tg e (lI L Ii)) (hg : PG X tg g) (gd : GD L.K L.J vs g G) (hb : PSs X body (lS L S1))
    (hs : ∀ x, foldedSetIterable e X.env x = pure x := by intro _; rfl) : PS X (.For tg e body [] pos) (lS L (sFor Ii G S1)) :=
  PS.weak (ps_for hp hc hi hg hb hs) fun Dn σ H ⟨m, H0, ρ, P, I, q, k⟩ => ⟨m, H0, ρ, _, _, I, q, fun ds ρ' H1 H' Jt p ex I' ⟨G1, Y, w, hG, hY⟩ => by
    refine for_it w (fun i σ2 H2 => ∃ H02 ρ2, i ≤ ds.length ∧ Ex H1 H02 ∧ In L.K L.J m σ2 ρ2 H02 H2 ∧ forD G S1 (ds.drop i) ρ2 P) ⟨H1, ρ', Nat.zero_le _, Ex.refl _, I', by simpa using p⟩ (fun i σ2 H2 hi ⟨H02, ρ2, _, ex2, I2, _⟩ => hG (fun _ h => h) ex2 I2) ?_ ?_
    · rintro i x σ2 H2 H3 hi ⟨H02, ρ2, _, ex2, I2, q2⟩ y
      obtain ⟨H03, d, ex3, I3, ed, rd⟩ := hY (fun _ h => h) hi ex2 I2 y
      have hd : ds.drop i = d :: ds.drop (i + 1) := by
        rw [List.drop_eq_getElem_cons hi]
        congr 1
        rw [List.getElem?_eq_getElem hi] at ed
        exact Option.some.inj ed
      rw [hd] at q2
      refine gd I3 rd q2 fun ρ4 σ4 q4 I4 _ => ?_
      refine ⟨m, H03, ρ4, _, I4, q4, ?_⟩
      have kk := k.mono ((ex.trans ex2).trans ex3)
      exact ⟨fun ρ5 σ5 H05 H5 p5 ex5 I5 => ⟨H05, ρ5, hi, (ex2.trans ex3).trans ex5, I5, p5⟩, kk.rt, fun ρ5 σ5 H05 H5 p5 ex5 I5 => kk.nx ρ5 σ5 H05 H5 p5 ex5 I5, fun ρ5 σ5 H05 H5 p5 ex5 I5 => ⟨H05, ρ5, hi, (ex2.trans ex3).trans ex5, I5, p5⟩, kk.xe⟩
    · rintro σ2 H2 ⟨H02, ρ2, _, ex2, I2, q2⟩
      rw [List.drop_length] at q2
      exact k.nx ρ2 σ2 H02 H2 q2 (ex.trans ex2) I2, k.xw σ⟩

/-! ### comprehensions -/
/-- the slots vs forgotten -/
def blank (ρ : En) : List Nat → En
  | [] => ρ
  | i :: is => (blank ρ is).set i .e
/-- .. as they were in ρ0 -/
def back (ρ0 ρ : En) : List Nat → En
  | [] => ρ
  | i :: is => (back ρ0 ρ is).set i (match ρ0[i]? with | some s => s | none => .e)
def lcD (vs : List Nat) (G : DG) (T : DT) (A : DE) : List D → List D → En → (List D → En → Prop) → XP → Prop
  | [], acc, ρ, P, _ => P acc ρ
  | x :: xs, acc, ρ, P, R => G x ρ fun ρ1 => T ρ1 (fun b ρ2 => if b = true then A ρ2 (fun y ρ3 => acc.length < sizeLine ∧ lcD vs G T A xs (acc ++ [y]) (blank ρ3 vs) P R) R else lcD vs G T A xs acc (blank ρ2 vs) P R) R
/-- no slot of vs holds an object of our own -/
def quiet (ρ : En) (vs : List Nat) : Prop := ∀ i ∈ vs, ∀ d, ρ[i]? ≠ some (.o d) ∧ ρ[i]? ≠ some (.m d)
def noR : XP := fun _ _ => False
def eLc (Ii : DI) (vs : List Nat) (G : DG) (T : DT) (A : DE) : DE := fun ρ P R => Ii ρ (fun ds ρ1 => quiet ρ1 vs ∧ lcD vs G T A ds [] (blank ρ1 vs) (fun acc ρ2 => P (.lst acc) (back ρ1 ρ2 vs)) noR) R
/-- the lift within a block -/
abbrev Li.blk (L : Li) : Li := { L with W := fun _ _ _ _ => False }
def uYes : DT := fun ρ P _ => P true ρ
theorem In.blanks {K : PySem.W.Frag} {J : Hp → Prop} {m : Fm} {σ : St} {ρ : En} {H0 H : Hp} (I : In K J m σ ρ H0 H) : ∀ vs : List Nat, In K J m (wipe σ vs) (blank ρ vs) H0 H
  | [] => I
  | i :: is => (I.blanks is).wipe_e
theorem blank_other {ρ : En} {i : Nat} : ∀ {vs : List Nat}, i ∉ vs → (blank ρ vs)[i]? = ρ[i]?
  | [], _ => rfl
  | j :: vs, h => by
    show ((blank ρ vs).set j .e)[i]? = ρ[i]?
    rw [List.getElem?_set_ne (fun e => h (by rw [e]; exact List.mem_cons_self))]
    exact blank_other fun q => h (List.mem_cons_of_mem _ q)
theorem back_other {ρ0 ρ : En} {i : Nat} : ∀ {vs : List Nat}, i ∉ vs → (back ρ0 ρ vs)[i]? = ρ[i]?
  | [], _ => rfl
  | j :: vs, h => by
    show ((back ρ0 ρ vs).set j _)[i]? = ρ[i]?
    rw [List.getElem?_set_ne (fun e => h (by rw [e]; exact List.mem_cons_self))]
    exact back_other fun q => h (List.mem_cons_of_mem _ q)
theorem back_length {ρ0 ρ : En} : ∀ {vs : List Nat}, (back ρ0 ρ vs).length = ρ.length
  | [] => rfl
  | j :: vs => by show ((back ρ0 ρ vs).set j _).length = _; rw [List.length_set, back_length]
theorem back_own {ρ0 ρ : En} {i : Nat} : ∀ {vs : List Nat}, i ∈ vs → i < ρ.length → (back ρ0 ρ vs)[i]? = some (match ρ0[i]? with | some s => s | none => .e)
  | j :: vs, h, hl => by
    show ((back ρ0 ρ vs).set j _)[i]? = _
    by_cases c : j = i
    · subst c
      rw [List.getElem?_set_self (by rw [back_length]; exact hl)]
    · rw [List.getElem?_set_ne c]
      exact back_own (by rcases List.mem_cons.mp h with h | h; exact absurd h.symm c; exact h) hl
theorem wipe_other {σ : St} {i : Nat} {vs : List Nat} (h : i ∉ vs) : (wipe σ vs)[i]? = σ[i]? := wipe_out h
/-- behind the block: the frame's own slots again -/
theorem In.backs {K : PySem.W.Frag} {J : Hp → Prop} {m : Fm} {σ : St} {ρ1 ρ2 : En} {H0 H1 H2 Hx : Hp} {vs : List Nat} (I1 : In K J m σ ρ1 H1 Hx) (qt : quiet ρ1 vs) (ex : Ex H1 H0) (I : In K J m (wipe σ vs) ρ2 H0 H2) : In K J m σ (back ρ1 ρ2 vs) H0 H2 := by
  have hl : σ.length = ρ2.length := by rw [← wipe_length σ vs]; exact I.len
  have own : ∀ (i : Nat) sl, (back ρ1 ρ2 vs)[i]? = some sl → (i ∈ vs ∧ (ρ1[i]? = some sl ∨ sl = .e)) ∨ (i ∉ vs ∧ ρ2[i]? = some sl) := fun i sl h => by
    by_cases c : i ∈ vs
    · have hi : i < ρ2.length := by
        have := (List.getElem?_eq_some_iff.mp h).1
        rw [back_length] at this; exact this
      rw [back_own c hi] at h
      left
      refine ⟨c, ?_⟩
      cases q : ρ1[i]? with
      | none => rw [q] at h; exact .inr (Option.some.inj h).symm
      | some s => rw [q] at h; exact .inl h
    · rw [back_other c] at h
      exact .inr ⟨c, h⟩
  refine ⟨I.st, I.j, I.me, by rw [back_length]; exact hl, fun i sl h => ?_, fun i j d d' h h' e => ?_, fun i j d d' h h' => ?_, fun g hg => ?_⟩
  · rcases own i sl h with ⟨c, h | rfl⟩ | ⟨c, h⟩
    · have x := I1.sl i sl h
      cases sl with
      | e => trivial
      | s d => obtain ⟨u, e1, r⟩ := x; exact ⟨u, e1, r.mono ex⟩
      | o d => exact absurd h (qt i c d).1
      | m d => exact absurd h (qt i c d).2
    · trivial
    · have x := I.sl i sl h
      rw [wipe_other c] at x
      exact x
  · rcases own i _ h with ⟨c, h | h⟩ | ⟨c, h⟩
    · exact absurd h (qt i c d).1
    · cases h
    · rcases own j _ h' with ⟨c', h' | h'⟩ | ⟨c', h'⟩
      · exact absurd h' (qt j c' d').1
      · cases h'
      · exact I.inj i j d d' h h' (by rw [wipe_other c, wipe_other c']; exact e)
  · rcases own i _ h with ⟨c, h | h⟩ | ⟨c, h⟩
    · exact absurd h (qt i c d).2
    · cases h
    · rcases own j _ h' with ⟨c', h' | h'⟩ | ⟨c', h'⟩
      · exact absurd h' (qt j c' d').2
      · cases h'
      · exact I.one i j d d' h h'
  · obtain ⟨g1, g2, g3, g4, g5⟩ := I.gh g hg
    refine ⟨g1, g2, g3, fun i d h => ?_, g5⟩
    rcases own i _ h with ⟨c, h | h⟩ | ⟨c, h⟩
    · exact absurd h (qt i c d).1
    · cases h
    · rw [← wipe_other c]; exact g4 i d h
def LcGo (J : It) (H1 : Hp) (g : TG) (tt : TT) (te : TE) (vs : List Nat) (σ : St) (Q : VK) : Prop := ∀ D, H1 D = none → ∃ W : Nat → Nat → Hp → Prop, (∃ m, W 0 m (upd H1 D (.lst []))) ∧ ∀ i m H, W i m H →
  (J.stop i H ∧ Q (.ref D) H) ∨ (J.go i H ∧ ∃ Nx : Hp → Prop, (∀ H', Nx H' → ∃ m', m' < m ∧ W (i + 1) m' H') ∧ ∀ x H', J.yld i H x H' → g x (wipe σ vs) H' fun σ2 H2 => wipe σ2 vs = wipe σ vs ∧ tt σ2 H2 fun b H3 =>
    if b = true then te σ2 H3 fun y H4 => ∃ acc, H4 D = some (.lst acc) ∧ acc.length < sizeLine ∧ Nx (upd H4 D (.lst (acc ++ [y]))) else Nx H3)
theorem l_lcC {g : TG} {G : DG} {vs : List Nat} (gd : GD L.K L.J vs g G) {σ : St} {Q : VK} {m : Fm} {ρ1 : En} {ds : List DV.D} {H1 H1' : Hp} {Jt : It} {P : DV.D → En → Prop} (I1 : In L.K L.J m σ ρ1 H1 H1') (dw : DW L.K L.J m.G Jt ds H1) (qt : quiet ρ1 vs)
    (p : lcD vs G T A ds [] (blank ρ1 vs) (fun acc ρ2 => P (.lst acc) (back ρ1 ρ2 vs)) noR) (k : ∀ d ρ' a H0' H', P d ρ' → Ex H1 H0' → In L.K L.J m σ ρ' H0' H' → Fresh L.K m σ ρ' H0' H' a d → Q (.ref a) H') :
    LcGo Jt H1' g (lT L.blk T) (lE L.blk A) vs σ Q := by
  obtain ⟨G1, Y, w, hG, hY⟩ := dw
  intro D hD
  -- the new list is a ghost through the turns
  let Inw : Nat → Hp → Prop := fun i H2 => ∃ H02 ρ2 acc da, i ≤ ds.length ∧ Ex H1 H02 ∧ H2 D = some (.lst acc) ∧ Reps L.K H02 acc da ∧ In L.K L.J (m.gh D (.lst acc)) (wipe σ vs) ρ2 H02 H2 ∧ lcD vs G T A (ds.drop i) da ρ2 (fun acc ρ2 => P (.lst acc) (back ρ1 ρ2 vs)) noR ∧ (∀ g ∈ m.G, g.1 ≠ D)
  have hDg : ∀ g ∈ m.G, g.1 ≠ D := fun g hg => ne_of_none (I1.gh g hg).2.1 hD
  refine lc_it w Inw ?_ (fun i H2 hi ⟨H02, ρ2, acc, da, _, ex2, _, _, I2, _⟩ => hG (fun g hg => List.mem_cons_of_mem _ hg) ex2 I2) ?_ ?_
  · have I2 := I1.allocP L.ok (o := .lst []) hD
    have I3 := (I2.blanks vs)
    refine ⟨H1, blank ρ1 vs, [], [], Nat.zero_le _, Ex.refl _, upd_same, .nil, I3.ghost (I1.free hD) upd_same (I1.fresh_new hD) ?_ trivial, by simpa using p, hDg⟩
    exact (I1.blanks vs).ne_new hD
  · rintro i xv H2 H3 hi ⟨H02, ρ2, acc, da, _, ex2, hacc, racc, I2, q2, _⟩ y
    obtain ⟨H03, d, ex3, I3, ed, rd⟩ := hY (fun g hg => List.mem_cons_of_mem _ hg) hi ex2 I2 y
    have hd : ds.drop i = d :: ds.drop (i + 1) := by
      rw [List.drop_eq_getElem_cons hi]
      congr 1
      rw [List.getElem?_eq_getElem hi] at ed
      exact Option.some.inj ed
    rw [hd] at q2
    refine gd I3 rd q2 fun ρ4 σ4 q4 I4 w4 => ⟨w4.trans (wipe_idem σ vs), ?_⟩
    refine ⟨_, H03, ρ4, _, noR, I4, q4, fun b ρ5 H05 H5 p5 ex5 I5 => ?_, fun _ _ _ _ _ _ z => z.elim⟩
    have hw : wipe σ4 vs = wipe σ vs := w4.trans (wipe_idem σ vs)
    cases b with
    | true =>
      rw [if_pos rfl] at p5
      refine iteT ?_
      refine ⟨_, H05, ρ5, _, noR, I5, p5, fun yd ρ6 vy H06 H6 ⟨hz, p6⟩ ex6 I6 r6 => ?_, fun _ _ _ _ _ _ z => z.elim⟩
      have exa : Ex H02 H06 := (ex3.trans ex5).trans ex6
      obtain ⟨I7, n7, h7, he7, ne7, w7⟩ := I6.unghost
      refine ⟨acc, h7, by rw [racc.length]; exact hz, H06, blank ρ6 vs, acc ++ [vy], da ++ [yd], hi, ex2.trans exa, upd_same, (racc.mono exa).append (.cons r6 .nil), ?_, p6, hDg⟩
      have I8 := I7.turnG L.ok (o' := .lst (acc ++ [vy])) n7 h7 trivial he7 ne7 hDg
      have I9 := I8.blanks vs
      rw [hw] at I9
      refine I9.ghost n7 upd_same he7 (fun i d hi e => ?_) trivial
      by_cases c : i ∈ vs
      · have : (wipe σ vs)[i]? = some (some (.ref D)) := e
        obtain ⟨_, nm⟩ := wipe_some this
        exact nm c
      · rw [blank_other c] at hi
        rw [← hw, wipe_other c] at e
        exact ne7 i d hi e
    | false =>
      rw [if_neg Bool.false_ne_true] at p5
      refine iteF ?_
      obtain ⟨I7, n7, h7, he7, ne7, w7⟩ := I5.unghost
      refine ⟨H05, blank ρ5 vs, acc, da, hi, (ex2.trans ex3).trans ex5, h7, (racc.mono ex3).mono ex5, ?_, p5, hDg⟩
      have I9 := I7.blanks vs
      rw [hw] at I9
      refine I9.ghost n7 h7 he7 (fun i d hi e => ?_) trivial
      by_cases c : i ∈ vs
      · have : (wipe σ vs)[i]? = some (some (.ref D)) := e
        obtain ⟨_, nm⟩ := wipe_some this
        exact nm c
      · rw [blank_other c] at hi
        rw [← hw, wipe_other c] at e
        exact ne7 i d hi e
  · rintro H2 ⟨H02, ρ2, acc, da, _, ex2, hacc, racc, I2, q2, _⟩
    rw [List.drop_length] at q2
    obtain ⟨I7, n7, h7, he7, ne7, w7⟩ := I2.unghost
    have I8 := In.backs I1 qt ex2 I7
    refine k (.lst da) _ D H02 H2 q2 ex2 I8 ⟨n7, ⟨_, h7, racc⟩, he7, fun i d hi e => ?_, hDg⟩
    by_cases c : i ∈ vs
    · have hi' : i < ρ2.length := by
        have := (List.getElem?_eq_some_iff.mp hi).1
        rw [back_length] at this; exact this
      rw [back_own c hi'] at hi
      cases qq : ρ1[i]? with
      | none => rw [qq] at hi; cases hi
      | some s =>
        rw [qq] at hi
        exact (qt i c d).1 (by rw [qq]; exact hi)
    · rw [back_other c] at hi
      rw [← wipe_other c] at e
      exact ne7 i d hi e
theorem l_lc {g : TG} {G : DG} {vs : List Nat} (gd : GD L.K L.J vs g G) {σ : St} {H : Hp} {Q : VK} (h : lF L (eLc Ii vs G T A) σ H Q) : tLc (lI L Ii) g (lT L.blk T) (lE L.blk A) vs σ H Q := by
  obtain ⟨m, H0, ρ, P, R, I, q, k, x⟩ := h
  exact ⟨m, H0, ρ, _, _, I, q, fun ds ρ1 H1 H1' Jt p ex1 I1 dw => l_lcC gd I1 dw p.1 p.2 fun d ρ' a H2 H2' pd ex2 I2 f => k d ρ' a H2 H2' pd (ex1.trans ex2) I2 f, x⟩
end
end DV

set_option Elab.async false
set_option linter.all false
set_option maxRecDepth 100000
set_option maxHeartbeats 4000000
/-! DV: comprehensions as terms, our own lists and dicts turned, fields stored. -/
namespace L2
open PySem PySem.Spec PyProof.Rows
/-- d.update(o) of two dicts with keys ints and texts -/
def rDUpd : V → List V → Hp → VK → Prop := fun x xs H Q => ∃ d o kvs more, x = .ref d ∧ xs = [.ref o] ∧ H d = some (.dK kvs) ∧ H o = some (.dK more) ∧ d ≠ o ∧ kvs.length + more.length ≤ sizeLine ∧ Q .non (upd H d (.dK (mergeK kvs more)))
theorem mt_update {X : Cx} : MtR X "dict.update" rDUpd := by
  intro pins s σ H x xs v us Q I rx rxs h
  obtain ⟨d, o, kvs, more, ex, exs, hd, ho, hne, hz, q⟩ := h
  subst ex; subst exs
  obtain rfl : v = Value.ref d := rx
  obtain ⟨u, rfl, ru⟩ := vals1 rxs
  obtain rfl : u = Value.ref o := ru
  obtain ⟨z, hdS, vs, rel, dd⟩ := dk_of I.hok hd
  obtain ⟨z2, hoS, ws, rel2, dd2⟩ := dk_of I.hok ho
  refine PySem.call_meetsIn F.slot_dict_update dd.typeIs F.entry_dict_update (F.args_dict_update_2 _ _) (meets_dict_update (mixKind X.prog X.w) d o hne hoS) ⟨vs, ws, dd, dd2, by rw [← rel.length, ← rel2.length]; exact hz, fun h' dd' ddo' hs => ?_⟩
  have he : ∃ q, h'.get? d = some q := let ⟨q, _, _, hq, _⟩ := dd'; ⟨q, hq⟩
  exact ⟨.non, _, d_write (t' := s.toks) I (by rw [hd]; exact True.intro) hs he (dk_new (Nat.le_trans (length_mergeK more kvs) hz) hdS (KV.merge rel2 rel) dd'), rfl, q⟩
end L2
namespace DV
open PySem L2
section
variable {X : Cx} {L : Li} {e a b tg elt iter : Expr} {A B : DE} {T U : DT} {S1 S2 : DS} {pos p spos : Pos} {st : Stmt} {rest sts : List Stmt} {As : DA} {Ii : DI} {scope : Scope} {own : List (Str × Nat)} {ifs : List Expr} {g : TG} {G : DG} {i j : Nat} {y : Str} {py : Pos}
theorem PTs.weak {es : List Expr} {t t' : TT} (h : PTs X es t) (w : ∀ σ H Q, t' σ H Q → t σ H Q) : PTs X es t' := ⟨fun pins s σ H Q I q => h.run pins s σ H Q I (w _ _ _ q)⟩
theorem tds_nil : PTs X [] (lT L uYes) := PTs.weak pts_nil fun σ H Q ⟨m, H0, ρ, P, R, I, q, k, x⟩ => k true ρ H0 H q (Ex.refl _) I
theorem tds_one (h : PT X e (lT L T)) : PTs X [e] (lT L T) := pts_one h
/-- vs: the places of the block's own names (own.map (·.2)) -/
theorem ef_lc (hc : X.calm = true) (hN : X.N.Nodup) (hi : PI X tg iter (lI L Ii)) (ok : BlkOk X.N X.env.scope scope own) (gd : GD L.K L.J (own.map (·.2)) g G)
    (hg : ∀ (s : Shared) (H : Hp) (C : Addr) (cl : List (Str × Addr)) (fp : List Addr), PG (X.blk s H scope (compEnvC scope cl C X.env) fp) tg g)
    (ht : ∀ (s : Shared) (H : Hp) (C : Addr) (cl : List (Str × Addr)) (fp : List Addr), PTs (X.blk s H scope (compEnvC scope cl C X.env) fp) ifs (lT L.blk T))
    (he : ∀ (s : Shared) (H : Hp) (C : Addr) (cl : List (Str × Addr)) (fp : List Addr), PE (X.blk s H scope (compEnvC scope cl C X.env) fp) elt (lE L.blk A)) (hs : ∀ x, foldedSetIterable iter X.env x = pure x := by intro _; rfl) :
    PE X (.ListComp elt [⟨tg, iter, ifs, 0⟩] scope pos) (lF L (eLc Ii (own.map (·.2)) G T A)) :=
  PE.weak (pe_lc hc hN hi ok hg ht he hs) fun _ _ _ => l_lc gd
theorem sd_setLcO (hc : X.calm = true) (hN : X.N.Nodup) (hsw : swapsWith (.ListComp elt [⟨tg, iter, ifs, 0⟩] scope pos) (some (.Name y py)) spos.line X.env = pure true) (hi : PI X tg iter (lI L Ii)) (ok : BlkOk X.N X.env.scope scope own) (gd : GD L.K L.J (own.map (·.2)) g G)
    (hg : ∀ (s : Shared) (H : Hp) (C : Addr) (cl : List (Str × Addr)) (fp : List Addr), PG (X.blk s H scope (compEnvC scope cl C X.env) fp) tg g)
    (ht : ∀ (s : Shared) (H : Hp) (C : Addr) (cl : List (Str × Addr)) (fp : List Addr), PTs (X.blk s H scope (compEnvC scope cl C X.env) fp) ifs (lT L.blk T))
    (he : ∀ (s : Shared) (H : Hp) (C : Addr) (cl : List (Str × Addr)) (fp : List Addr), PE (X.blk s H scope (compEnvC scope cl C X.env) fp) elt (lE L.blk A)) (hy : X.N[i]? = some y := by rfl) (hyl : X.env.scope.names.lookup y = some .local := by rfl) (hs : ∀ x, foldedSetIterable iter X.env x = pure x := by intro _; rfl) :
    PS X (.Assign [.Name y py] (.ListComp elt [⟨tg, iter, ifs, 0⟩] scope pos) spos) (lS L (sSetO i (eLc Ii (own.map (·.2)) G T A))) :=
  PS.weak (ps_setLc hc hN hy hyl hsw hi ok hg ht he hs) fun Dn σ H ⟨m, H0, ρ, P, I, q, k⟩ =>
    l_lc gd ⟨m, H0, ρ, _, _, I, q, fun d ρ' a H0' H' p ex I' f => k.nx _ _ _ _ p ex (I'.set_o f), k.xw σ⟩
theorem sd_setLc (hc : X.calm = true) (hN : X.N.Nodup) (hsw : swapsWith (.ListComp elt [⟨tg, iter, ifs, 0⟩] scope pos) (some (.Name y py)) spos.line X.env = pure true) (hi : PI X tg iter (lI L Ii)) (ok : BlkOk X.N X.env.scope scope own) (gd : GD L.K L.J (own.map (·.2)) g G)
    (hg : ∀ (s : Shared) (H : Hp) (C : Addr) (cl : List (Str × Addr)) (fp : List Addr), PG (X.blk s H scope (compEnvC scope cl C X.env) fp) tg g)
    (ht : ∀ (s : Shared) (H : Hp) (C : Addr) (cl : List (Str × Addr)) (fp : List Addr), PTs (X.blk s H scope (compEnvC scope cl C X.env) fp) ifs (lT L.blk T))
    (he : ∀ (s : Shared) (H : Hp) (C : Addr) (cl : List (Str × Addr)) (fp : List Addr), PE (X.blk s H scope (compEnvC scope cl C X.env) fp) elt (lE L.blk A)) (hy : X.N[i]? = some y := by rfl) (hyl : X.env.scope.names.lookup y = some .local := by rfl) (hs : ∀ x, foldedSetIterable iter X.env x = pure x := by intro _; rfl) :
    PS X (.Assign [.Name y py] (.ListComp elt [⟨tg, iter, ifs, 0⟩] scope pos) spos) (lS L (sSet i (eLc Ii (own.map (·.2)) G T A))) :=
  PS.weak (ps_setLc hc hN hy hyl hsw hi ok hg ht he hs) fun Dn σ H ⟨m, H0, ρ, P, I, q, k⟩ =>
    l_lc gd ⟨m, H0, ρ, _, _, I, q, fun d ρ' a H0' H' p ex I' f => by
      obtain ⟨H2, e2, I2, r⟩ := f.shared I'
      exact k.nx _ _ _ _ p (ex.trans e2) (I2.set_s r), k.xw σ⟩

/-! ### our own list in slot j -/
/-- where the object of slot j stands -/
theorem In.at_o {K : PySem.W.Frag} {J : Hp → Prop} {m : Fm} {σ : St} {ρ : En} {H0 H : Hp} {d : D} (I : In K J m σ ρ H0 H) (h : ρ[j]? = some (.o d) ∨ ρ[j]? = some (.m d)) : ∃ a o, σ[j]? = some (some (.ref a)) ∧ H0 a = none ∧ H a = some o ∧ OwR K H0 o d := by
  rcases h with h | h
  · obtain ⟨a, o, e1, n, q, r, z⟩ := I.sl j _ h; exact ⟨a, o, e1, n, q, r⟩
  · obtain ⟨a, o, e1, n, q, r, z⟩ := I.sl j _ h; exact ⟨a, o, e1, n, q, r⟩
/-- slot j, our own, now holds d -/
def putO (ρ : En) (j : Nat) (d : D) : En := ρ.set j (match ρ[j]? with | some (.m _) => .m d | _ => .o d)
def ownD (ρ : En) (j : Nat) (d : D) : Prop := ρ[j]? = some (.o d) ∨ ρ[j]? = some (.m d)
theorem In.put {K : PySem.W.Frag} {J : Hp → Prop} (hJ : JOk J) {m : Fm} {σ : St} {ρ : En} {H0 H : Hp} {d d' : D} {a : Addr} {o' : HO} (I : In K J m σ ρ H0 H) (h : ownD ρ j d) (ha : σ[j]? = some (some (.ref a))) (r : OwR K H0 o' d') : In K J m σ (putO ρ j d') H0 (upd H a o') := by
  unfold putO
  rcases h with h | h
  · rw [h]; exact I.turn hJ h ha r
  · rw [h]; exact I.turnM hJ h ha r
/-- xs.append(e) -/
def sApp (j : Nat) (A : DE) : DS := fun ρ P => (∃ l, ownD ρ j (.lst l)) ∧ A ρ (fun d ρ1 => ∃ l, ownD ρ1 j (.lst l) ∧ l.length < sizeLine ∧ P.nx (putO ρ1 j (.lst (l ++ [d])))) P.xe
theorem tyV_l {K : PySem.W.Frag} {H : Hp} {a : Addr} {xs : List V} (h : H a = some (.lst xs)) : tyV K "list" (.ref a) H := .inl ⟨rfl, xs, SqL.of h⟩
theorem sd_append {o : Expr} {apos cpos epos : Pos} (ho : PE X o (tVar j)) (ha : PE X e (lE L A)) (hbase : attributeBase o "append" X.env (eval o X.env) = eval o X.env := by rfl)
    (hfew : ((backTo cpos (starEach (e :: []) X.env)).all (fun x => !x.1) && (backToKw cpos (keywordEach [] X.env)).all (fun x => x.1.isSome)
      && decide ((e :: []).length + ([] : List Keyword).length + (if ([] : List Keyword).isEmpty then 0 else 1) < 30)) = true := by rfl)
    (hline : (apos.endLine == cpos.line) = true := by rfl) (h1 : starEach (e :: []) X.env = (false, eval e X.env) :: starEach [] X.env := by rfl) (hplain : (backTo cpos (starEach [] X.env)).any (·.1) = false := by rfl)
    (hs : swapsWith (.Call (.Attribute o "append" apos) [e] [] cpos) none epos.line X.env = pure false := by rfl) :
    PS X (.Expr (.Call (.Attribute o "append" apos) [e] [] cpos) epos) (lS L (sApp j A)) :=
  PS.weak (ps_expr (pe_bm PySem.F.plainAttrs_list PySem.F.slot_list_append PySem.F.type_list_append mt_append ho (pa_cons ha pa_nil h1) hbase hfew hline h1 hplain) hs) fun Dn σ H ⟨m, H0, ρ, P, I, ⟨⟨l0, h0⟩, q⟩, k⟩ => by
    obtain ⟨a, o, ea, _, hao, ro⟩ := I.at_o h0
    obtain ⟨vs, rfl, rv⟩ := ro.lst_inv
    refine ⟨.ref a, ea, tyV_l hao, m, H0, ρ, _, _, I, q, fun d ρ1 v H1 H1' ⟨l, hl, hz, p⟩ ex I1 r => ?_, k.xw σ⟩
    obtain ⟨a', o', ea', _, hao', ro'⟩ := I1.at_o hl
    rw [ea] at ea'; cases ea'
    obtain ⟨ws, rfl, rw'⟩ := ro'.lst_inv
    exact ⟨a, ws, v, rfl, rfl, hao', by rw [rw'.length]; exact hz, k.nx _ _ _ _ p ex (I1.put L.ok hl ea (o' := .lst (ws ++ [v])) (d' := .lst (l ++ [d])) (rw'.append r))⟩
/-- xs.extend(e), e a list -/
def sExt (j : Nat) (A : DE) : DS := fun ρ P => (∃ l, ownD ρ j (.lst l)) ∧ A ρ (fun d ρ1 => ∃ l l2, d = .lst l2 ∧ ownD ρ1 j (.lst l) ∧ l.length + l2.length ≤ sizeLine ∧ P.nx (putO ρ1 j (.lst (l ++ l2)))) P.xe
theorem sd_extend {o : Expr} {apos cpos epos : Pos} (ho : PE X o (tVar j)) (ha : PE X e (lE L A)) (hbase : attributeBase o "extend" X.env (eval o X.env) = eval o X.env := by rfl)
    (hfew : ((backTo cpos (starEach (e :: []) X.env)).all (fun x => !x.1) && (backToKw cpos (keywordEach [] X.env)).all (fun x => x.1.isSome)
      && decide ((e :: []).length + ([] : List Keyword).length + (if ([] : List Keyword).isEmpty then 0 else 1) < 30)) = true := by rfl)
    (hline : (apos.endLine == cpos.line) = true := by rfl) (h1 : starEach (e :: []) X.env = (false, eval e X.env) :: starEach [] X.env := by rfl) (hplain : (backTo cpos (starEach [] X.env)).any (·.1) = false := by rfl)
    (hs : swapsWith (.Call (.Attribute o "extend" apos) [e] [] cpos) none epos.line X.env = pure false := by rfl) :
    PS X (.Expr (.Call (.Attribute o "extend" apos) [e] [] cpos) epos) (lS L (sExt j A)) :=
  PS.weak (ps_expr (pe_bm PySem.F.plainAttrs_list PySem.F.slot_list_extend PySem.F.type_list_extend mt_extend ho (pa_cons ha pa_nil h1) hbase hfew hline h1 hplain) hs) fun Dn σ H ⟨m, H0, ρ, P, I, ⟨⟨l0, h0⟩, q⟩, k⟩ => by
    obtain ⟨a, o, ea, _, hao, ro⟩ := I.at_o h0
    obtain ⟨vs, rfl, rv⟩ := ro.lst_inv
    refine ⟨.ref a, ea, tyV_l hao, m, H0, ρ, _, _, I, q, fun d ρ1 v H1 H1' ⟨l, l2, ed, hl, hz, p⟩ ex I1 r => ?_, k.xw σ⟩
    subst ed
    obtain ⟨b, zs, rfl, hb, rz⟩ := r.lst_inv
    obtain ⟨a', o', ea', _, hao', ro'⟩ := I1.at_o hl
    rw [ea] at ea'; cases ea'
    obtain ⟨ws, rfl, rw'⟩ := ro'.lst_inv
    exact ⟨a, b, ws, zs, rfl, rfl, hao', I1.sub _ _ hb, by rw [rw'.length, rz.length]; exact hz, k.nx _ _ _ _ p ex (I1.put L.ok hl ea (o' := .lst (ws ++ zs)) (d' := .lst (l ++ l2)) (rw'.append rz))⟩
/-- xs.pop(i), as a value -/
def ePop (j : Nat) (A : DE) : DE := fun ρ P R => (∃ l, ownD ρ j (.lst l)) ∧ A ρ (fun d ρ1 => ∃ i l kx z, d = .int i ∧ ownD ρ1 j (.lst l) ∧ -(2 ^ 63) ≤ i ∧ i < 2 ^ 63 ∧ seqIndex? i l.length = some kx ∧ l[kx]? = some z ∧ P z (putO ρ1 j (.lst (l.eraseIdx kx)))) R
theorem ed_pop {o : Expr} {apos cpos : Pos} (ho : PE X o (tVar j)) (ha : PE X e (lE L A)) (hbase : attributeBase o "pop" X.env (eval o X.env) = eval o X.env := by rfl)
    (hfew : ((backTo cpos (starEach (e :: []) X.env)).all (fun x => !x.1) && (backToKw cpos (keywordEach [] X.env)).all (fun x => x.1.isSome)
      && decide ((e :: []).length + ([] : List Keyword).length + (if ([] : List Keyword).isEmpty then 0 else 1) < 30)) = true := by rfl)
    (hline : (apos.endLine == cpos.line) = true := by rfl) (h1 : starEach (e :: []) X.env = (false, eval e X.env) :: starEach [] X.env := by rfl) (hplain : (backTo cpos (starEach [] X.env)).any (·.1) = false := by rfl) :
    PE X (.Call (.Attribute o "pop" apos) [e] [] cpos) (lE L (ePop j A)) :=
  PE.weak (pe_bm PySem.F.plainAttrs_list PySem.F.slot_list_pop PySem.F.type_list_pop mt_popAt ho (pa_cons ha pa_nil h1) hbase hfew hline h1 hplain) fun σ H Q ⟨m, H0, ρ, P, R, I, ⟨⟨l0, h0⟩, q⟩, k, x⟩ => by
    obtain ⟨a, o, ea, _, hao, ro⟩ := I.at_o h0
    obtain ⟨vs, rfl, rv⟩ := ro.lst_inv
    refine ⟨.ref a, ea, tyV_l hao, m, H0, ρ, _, _, I, q, fun d ρ1 v H1 H1' ⟨i, l, kx, z, ed, hl, i1, i2, hs, hz, p⟩ ex I1 r => ?_, x⟩
    subst ed
    obtain ⟨a', o', ea', _, hao', ro'⟩ := I1.at_o hl
    rw [ea] at ea'; cases ea'
    obtain ⟨ws, rfl, rw'⟩ := ro'.lst_inv
    obtain ⟨w, hw, rz⟩ := rw'.get hz
    exact ⟨a, ws, i, kx, w, rfl, by rw [r.int_inv], hao', i1, i2, by rw [rw'.length]; exact hs, hw, k _ _ _ _ _ p ex (I1.put L.ok hl ea (o' := .lst (ws.eraseIdx kx)) (d' := .lst (l.eraseIdx kx)) (rw'.erase kx)) rz⟩
/-- xs[i] = e -/
def sSub (j : Nat) (A B : DE) : DS := fun ρ P => A ρ (fun d ρ1 => (∃ l, ownD ρ1 j (.lst l)) ∧ B ρ1 (fun b ρ2 => ∃ i l kx, b = .int i ∧ ownD ρ2 j (.lst l) ∧ ixN l.length i = some kx ∧ P.nx (putO ρ2 j (.lst (l.set kx d)))) P.xe) P.xe
theorem sd_sub {o ix : Expr} {spos pos : Pos} (he : PE X e (lE L A)) (ho : PE X o (tVar j)) (hi : PE X ix (lE L B))
    (ha : ∀ v, assign (.Subscript o ix spos) X.env v = (do
      let ov ← holding [v] (eval o X.env)
      let iv ← holding [v, ov] (eval ix X.env)
      standAt spos
      holding [v, ov, iv] (setItem ov iv v)
      release [v, ov, iv] []) := by intro _; rfl)
    (hs : swapsWithSole [.Subscript o ix spos] e pos.line X.env = pure false := by rfl) (hw : swappedStores [.Subscript o ix spos] e X.env = pure none := by rfl)
    (h1 : (assignEach [.Subscript o ix spos] X.env).map (·.2) = [assign (.Subscript o ix spos) X.env] := by rfl) : PS X (.Assign [.Subscript o ix spos] e pos) (lS L (sSub j A B)) :=
  PS.weak (ps_asg he (pg_sub ho hi set_list ha) hs hw h1) fun Dn σ H ⟨m, H0, ρ, P, I, q, k⟩ => ⟨m, H0, ρ, _, _, I, q, fun d ρ1 v H1 H1' ⟨⟨l0, h0⟩, q1⟩ ex1 I1 r1 => by
    obtain ⟨a, o, ea, _, hao, ro⟩ := I1.at_o h0
    refine ⟨.ref a, ea, m, H1, ρ1, _, _, I1, q1, fun b ρ2 vb H2 H2' ⟨i, l, kx, eb, hl, hk, p⟩ ex2 I2 r2 => ?_, k.xw σ⟩
    subst eb
    obtain ⟨a', o', ea', _, hao', ro'⟩ := I2.at_o hl
    rw [ea] at ea'; cases ea'
    obtain ⟨ws, rfl, rw'⟩ := ro'.lst_inv
    exact ⟨a, ws, i, kx, rfl, r2.int_inv, hao', by rw [rw'.length]; exact hk, k.nx _ _ _ _ p (ex1.trans ex2) (I2.put L.ok hl ea (o' := .lst (ws.set kx v)) (d' := .lst (l.set kx d)) (rw'.set kx (r1.mono ex2)))⟩, k.xw σ⟩

/-! ### our own dict in slot j -/
def putD (kds : List (Key × D)) (k : Key) (d : D) : List (Key × D) := if (kds.any fun q => decide (q.1 = k)) = true then kds.map (fun q => if q.1 = k then (q.1, d) else q) else kds ++ [(k, d)]
theorem rep_putD {K : PySem.W.Frag} {H : Hp} {kvs : List (Key × V)} {kds : List (Key × D)} {k : Key} {v : V} {d : D} (e : kvs.map (·.1) = kds.map (·.1)) (r : Reps K H (kvs.map (·.2)) (kds.map (·.2))) (rv : Rep K H v d) :
    (putK kvs k v).map (·.1) = (putD kds k d).map (·.1) ∧ Reps K H ((putK kvs k v).map (·.2)) ((putD kds k d).map (·.2)) := by
  have ha : (kvs.any fun kv => decide (kv.1 = k)) = kds.any fun q => decide (q.1 = k) := by
    have h1 : (kvs.any fun kv => decide (kv.1 = k)) = (kvs.map (·.1)).any fun x => decide (x = k) := by rw [List.any_map]; rfl
    have h2 : (kds.any fun kv => decide (kv.1 = k)) = (kds.map (·.1)).any fun x => decide (x = k) := by rw [List.any_map]; rfl
    rw [h1, h2, e]
  unfold putK putD
  rw [ha]
  by_cases c : (kds.any fun q => decide (q.1 = k)) = true
  · rw [if_pos c, if_pos c]
    clear c ha
    induction kvs generalizing kds with
    | nil =>
      cases kds with
      | nil => exact ⟨rfl, .nil⟩
      | cons q l => simp at e
    | cons p kvs ih =>
      cases kds with
      | nil => simp at e
      | cons q l =>
        simp only [List.map_cons, List.cons.injEq] at e
        obtain ⟨r1, r2⟩ := Reps.uncons r
        obtain ⟨i1, i2⟩ := ih e.2 r2
        simp only [List.map_cons]
        rw [← e.1]
        by_cases c2 : p.1 = k
        · rw [if_pos c2, if_pos c2]
          exact ⟨by rw [i1], .cons rv i2⟩
        · rw [if_neg c2, if_neg c2]
          exact ⟨by rw [i1, e.1], .cons r1 i2⟩
  · rw [if_neg c, if_neg c]
    simp only [List.map_append, List.map_cons, List.map_nil]
    exact ⟨by rw [e], r.append (.cons rv .nil)⟩
/-- d[k] = e -/
def sDput (j : Nat) (A B : DE) : DS := fun ρ P => A ρ (fun d ρ1 => (∃ l, ownD ρ1 j (.dic l)) ∧ B ρ1 (fun b ρ2 => ∃ kx l, keyOf b = some kx ∧ ownD ρ2 j (.dic l) ∧ l.length < sizeLine ∧ P.nx (putO ρ2 j (.dic (putD l kx d)))) P.xe) P.xe
theorem sd_dput {o ix : Expr} {pos' pos : Pos} (hu : X.A.units + 1 < cLine) (he : PE X e (lE L A)) (ho : PE X o (tVar j)) (hi : PE X ix (lE L B)) (hs : swapsWith e (some (.Subscript o ix pos')) pos.line X.env = pure false := by rfl) :
    PS X (.Assign [.Subscript o ix pos'] e pos) (lS L (sDput j A B)) :=
  PS.weak (ps_dput hu ho hi he hs) fun Dn σ H ⟨m, H0, ρ, P, I, q, k⟩ => ⟨m, H0, ρ, _, _, I, q, fun d ρ1 v H1 H1' ⟨⟨l0, h0⟩, q1⟩ ex1 I1 r1 => by
    obtain ⟨a, o, ea, _, hao, ro⟩ := I1.at_o h0
    refine ⟨.ref a, ea, m, H1, ρ1, _, _, I1, q1, fun b ρ2 vb H2 H2' ⟨kx, l, hk, hl, hz, p⟩ ex2 I2 r2 => ?_, k.xw σ⟩
    obtain ⟨a', o', ea', _, hao', ro'⟩ := I2.at_o hl
    rw [ea] at ea'; cases ea'
    obtain ⟨kvs, rfl, e1, rk⟩ := ro'.dic_inv
    obtain ⟨i1, i2⟩ := rep_putD (k := kx) e1 rk (r1.mono ex2)
    have hlen : kvs.length < sizeLine := by have := congrArg List.length e1; simp at this; omega
    exact ⟨a, _, rfl, .inl ⟨kvs, kx, hao', keyOf_kV r2 hk, hlen, rfl⟩, k.nx _ _ _ _ p (ex1.trans ex2) (I2.put L.ok hl ea (o' := .dK (putK kvs kx v)) (d' := .dic (putD l kx d)) ⟨i1, i2⟩)⟩, k.xw σ⟩
def mergeD (l more : List (Key × D)) : List (Key × D) := more.foldl (fun acc kv => putD acc kv.1 kv.2) l
theorem rep_mergeD {K : PySem.W.Frag} {H : Hp} : ∀ {more : List (Key × V)} {mored : List (Key × D)} {kvs : List (Key × V)} {kds : List (Key × D)}, kvs.map (·.1) = kds.map (·.1) → Reps K H (kvs.map (·.2)) (kds.map (·.2)) → more.map (·.1) = mored.map (·.1) → Reps K H (more.map (·.2)) (mored.map (·.2)) →
    (mergeK kvs more).map (·.1) = (mergeD kds mored).map (·.1) ∧ Reps K H ((mergeK kvs more).map (·.2)) ((mergeD kds mored).map (·.2))
  | [], [], _, _, e, r, _, _ => ⟨e, r⟩
  | [], _ :: _, _, _, _, _, h, _ => by cases h
  | _ :: _, [], _, _, _, _, h, _ => by cases h
  | p :: more, q :: mored, kvs, kds, e, r, h, hr => by
    simp only [List.map_cons, List.cons.injEq] at h
    obtain ⟨r1, r2⟩ := Reps.uncons hr
    obtain ⟨i1, i2⟩ := rep_putD (k := p.1) e r r1
    have := rep_mergeD (more := more) (mored := mored) i1 i2 h.2 r2
    rw [h.1] at this
    show (mergeK (putK kvs p.1 p.2) more).map (·.1) = (mergeD (putD kds q.1 q.2) mored).map (·.1) ∧ Reps K H ((mergeK (putK kvs p.1 p.2) more).map (·.2)) ((mergeD (putD kds q.1 q.2) mored).map (·.2))
    rw [h.1]; exact this
/-- d.update(e), e a new dict -/
def sDupd (j : Nat) (A : DE) : DS := fun ρ P => (∃ l, ownD ρ j (.dic l)) ∧ A ρ (fun d ρ1 => ∃ l l2, d = .dic l2 ∧ ownD ρ1 j (.dic l) ∧ l.length + l2.length ≤ sizeLine ∧ P.nx (putO ρ1 j (.dic (mergeD l l2)))) P.xe
theorem tyV_d {K : PySem.W.Frag} {H : Hp} {a : Addr} {xs : List (Key × V)} (h : H a = some (.dK xs)) : tyV K "dict" (.ref a) H := .inr (.inr (.inl ⟨rfl, .inl ⟨xs, h⟩⟩))
theorem sd_dupd {o : Expr} {apos cpos epos : Pos} (ho : PE X o (tVar j)) (ha : PE X e (lE L A)) (hbase : attributeBase o "update" X.env (eval o X.env) = eval o X.env := by rfl)
    (hfew : ((backTo cpos (starEach (e :: []) X.env)).all (fun x => !x.1) && (backToKw cpos (keywordEach [] X.env)).all (fun x => x.1.isSome)
      && decide ((e :: []).length + ([] : List Keyword).length + (if ([] : List Keyword).isEmpty then 0 else 1) < 30)) = true := by rfl)
    (hline : (apos.endLine == cpos.line) = true := by rfl) (h1 : starEach (e :: []) X.env = (false, eval e X.env) :: starEach [] X.env := by rfl) (hplain : (backTo cpos (starEach [] X.env)).any (·.1) = false := by rfl)
    (hs : swapsWith (.Call (.Attribute o "update" apos) [e] [] cpos) none epos.line X.env = pure false := by rfl) :
    PS X (.Expr (.Call (.Attribute o "update" apos) [e] [] cpos) epos) (lS L (sDupd j A)) :=
  PS.weak (ps_expr (pe_bm PySem.F.plainAttrs_dict PySem.F.slot_dict_update PySem.F.type_dict_update mt_update ho (pa_cons ha pa_nil h1) hbase hfew hline h1 hplain) hs) fun Dn σ H ⟨m, H0, ρ, P, I, ⟨⟨l0, h0⟩, q⟩, k⟩ => by
    obtain ⟨a, o, ea, _, hao, ro⟩ := I.at_o h0
    obtain ⟨kvs, rfl, e1, rk⟩ := ro.dic_inv
    refine ⟨.ref a, ea, tyV_d hao, m, H0, ρ, _, _, I, q, fun d ρ1 v H1 H1' ⟨l, l2, ed, hl, hz, p⟩ ex I1 r => ?_, k.xw σ⟩
    subst ed
    obtain ⟨b, zs, rfl, hb, e2, rz⟩ := r.dic_inv
    obtain ⟨a', o', ea', n0, hao', ro'⟩ := I1.at_o hl
    rw [ea] at ea'; cases ea'
    obtain ⟨ws, rfl, e3, rw'⟩ := ro'.dic_inv
    have hab : a ≠ b := fun z => by rw [z, hb] at n0; cases n0
    have l1 := congrArg List.length e3
    have l2' := congrArg List.length e2
    simp only [List.length_map] at l1 l2'
    obtain ⟨i1, i2⟩ := rep_mergeD e3 rw' e2 rz
    exact ⟨a, b, ws, zs, rfl, rfl, hao', I1.sub _ _ hb, hab, by omega, k.nx _ _ _ _ p ex (I1.put L.ok hl ea (o' := .dK (mergeK ws zs)) (d' := .dic (mergeD l l2)) ⟨i1, i2⟩)⟩
/-- {} -/
theorem ef_dnew : PE X (.Dict [] [] pos) (lF L (eC (.dic []))) :=
  PE.weak pe_dnewK fun σ H Q ⟨m, H0, ρ, P, R, I, q, k, x⟩ => fun p hp => by
    obtain ⟨I2, f⟩ := I.fresh L.ok hp (o := .dK []) (d := .dic []) ⟨rfl, .nil⟩
    exact k _ _ _ _ _ q (Ex.refl _) I2 f
/-- d[k] of a shared dict -/
def dDget : D → D → (D → Prop) → Prop := fun x y P => ∃ l k d, x = .dic l ∧ keyOf y = some k ∧ (l.find? fun q => decide (q.1 = k)).map (·.2) = some d ∧ P d
theorem valV_rep {K : PySem.W.Frag} {H : Hp} {k : Key} {d : D} : ∀ {kvs : List (Key × V)} {kds : List (Key × D)}, kvs.map (·.1) = kds.map (·.1) → Reps K H (kvs.map (·.2)) (kds.map (·.2)) → (kds.find? fun q => decide (q.1 = k)).map (·.2) = some d → ∃ v, valV kvs k = some v ∧ Rep K H v d
  | [], [], _, _, e => by cases e
  | [], _ :: _, h, _, _ => by cases h
  | _ :: _, [], h, _, _ => by cases h
  | p :: kvs, q :: kds, h, r, e => by
    simp only [List.map_cons, List.cons.injEq] at h
    obtain ⟨r1, r2⟩ := Reps.uncons r
    unfold valV
    rw [List.find?_cons] at e ⊢
    rw [h.1]
    by_cases c : q.1 = k
    · simp only [c, decide_true] at e ⊢
      cases e
      exact ⟨_, rfl, r1⟩
    · simp only [decide_eq_false c] at e ⊢
      exact valV_rep h.2 r2 e
theorem ed_dget (hu : X.A.units + 1 < cLine) (ha : PE X a (lE L A)) (hb : PE X b (lE L B)) (hs : NoSl b := by intro _ _; rfl) : PE X (.Subscript a b pos) (lE L (eBin dDget A B)) :=
  PE.weak (pe_dget hu ha hb hs) fun σ H Q ⟨m, H0, ρ, P, R, I, q, k, x⟩ => ⟨m, H0, ρ, _, R, I, q, fun dx ρ1 vx H1 H1' q1 ex1 I1 r1 => ⟨m, H1, ρ1, _, R, I1, q1, fun dy ρ2 vy H2 H2' ⟨l, kx, d, ex, ey, ef, p⟩ ex2 I2 r2 => by
    subst ex
    obtain ⟨b, zs, rfl, hb, e2, rz⟩ := (r1.mono ex2).dic_inv
    obtain ⟨v, hv, rv⟩ := valV_rep e2 rz ef
    exact ⟨b, v, rfl, .inl ⟨zs, kx, .inl (I2.sub _ _ hb), keyOf_kV r2 ey, hv.symm⟩, k _ _ _ _ _ p (ex1.trans ex2) I2 rv⟩, x⟩, x⟩

/-! ### a field stored -/
def putFD (f : Str) (d : D) : List (Str × D) → List (Str × D)
  | [] => [(f, d)]
  | (n, x) :: fs => if n = f then (n, d) :: fs else (n, x) :: putFD f d fs
theorem rep_putF {K : PySem.W.Frag} {H : Hp} {f : Str} {v : V} {d : D} (rv : Rep K H v d) : ∀ {fvs : List (Str × V)} {fds : List (Str × D)}, fvs.map (·.1) = fds.map (·.1) → Reps K H (fvs.map (·.2)) (fds.map (·.2)) → (putF f v fvs).map (·.1) = (putFD f d fds).map (·.1) ∧ Reps K H ((putF f v fvs).map (·.2)) ((putFD f d fds).map (·.2))
  | [], [], _, _ => ⟨rfl, .cons rv .nil⟩
  | [], _ :: _, h, _ => by cases h
  | _ :: _, [], h, _ => by cases h
  | (n, x) :: fvs, (n', x') :: fds, h, r => by
    simp only [List.map_cons, List.cons.injEq] at h
    obtain ⟨rfl, h⟩ := h
    obtain ⟨r1, r2⟩ := Reps.uncons r
    obtain ⟨i1, i2⟩ := rep_putF rv h r2
    unfold putF putFD
    by_cases c : n = f
    · rw [if_pos c, if_pos c]
      exact ⟨by simp [h], .cons rv r2⟩
    · rw [if_neg c, if_neg c]
      exact ⟨by simp [i1], .cons r1 i2⟩
/-- self.f = e, self our own object in slot j -/
def sFldS (j : Nat) (C : Addr) (f : Str) (A : DE) : DS := fun ρ P => A ρ (fun d ρ1 => ∃ fs, ownD ρ1 j (.obj C fs) ∧ fs.length < 1000 ∧ P.nx (putO ρ1 j (.obj C (putFD f d fs)))) P.xe
theorem sd_fld {o : Expr} {C : Addr} {f : Str} {pos' pos : Pos} (c : Cls X.K C) (n : NoAttr X.K C f) (ho : PE X o (tVar j)) (he : PE X e (lE L A)) (hs : swapsWith e (some (.Attribute o f pos')) pos.line X.env = pure false := by rfl) :
    PS X (.Assign [.Attribute o f pos'] e pos) (lS L (sFldS j C f A)) :=
  PS.weak (ps_fld ho he hs) fun Dn σ H ⟨m, H0, ρ, P, I, q, k⟩ => ⟨m, H0, ρ, _, _, I, q, fun d ρ1 v H1 H1' ⟨fs, hl, hz, p⟩ ex1 I1 r1 => by
    obtain ⟨a, o, ea, _, hao, ro⟩ := I1.at_o hl
    obtain ⟨dx, fvs, rfl, e1, rf⟩ := ro.obj_inv
    obtain ⟨i1, i2⟩ := rep_putF (f := f) r1 e1 rf
    have hlen := congrArg List.length e1
    simp only [List.length_map] at hlen
    exact ⟨.ref a, ea, a, C, dx, fvs, rfl, hao, c, n, by omega, k.nx _ _ _ _ p ex1 (I1.put L.ok hl ea (o' := .ins C dx (putF f v fvs)) (d' := .obj C (putFD f d fs)) ⟨rfl, i1, i2⟩)⟩, k.xw σ⟩
end
end DV

set_option Elab.async false
set_option linter.all false
set_option maxRecDepth 100000
set_option maxHeartbeats 4000000
/-! DV: dict comprehensions, pairs stored at once, stars, further built-ins. -/
namespace DV
open PySem L2
section
variable {X : Cx} {L : Li} {e a b tg elt iter kx vx : Expr} {A B : DE} {T U : DT} {S1 S2 : DS} {pos p spos : Pos} {st : Stmt} {rest sts : List Stmt} {As : DA} {Ii : DI} {scope : Scope} {own : List (Str × Nat)} {ifs es : List Expr} {g : TG} {G : DG} {i j : Nat} {x y : Str} {py : Pos}
/-! ### {k: v for ..} -/
def dcD (vs : List Nat) (G : DG) (T : DT) (A B : DE) : List D → List (Key × D) → En → (List (Key × D) → En → Prop) → XP → Prop
  | [], acc, ρ, P, _ => P acc ρ
  | x :: xs, acc, ρ, P, R => G x ρ fun ρ1 => T ρ1 (fun b ρ2 => if b = true then A ρ2 (fun y ρ3 => B ρ3 (fun z ρ4 => ∃ k, keyOf y = some k ∧ acc.length < sizeLine ∧ dcD vs G T A B xs (putD acc k z) (blank ρ4 vs) P R) R) R else dcD vs G T A B xs acc (blank ρ2 vs) P R) R
def eDc (Ii : DI) (vs : List Nat) (G : DG) (T : DT) (A B : DE) : DE := fun ρ P R => Ii ρ (fun ds ρ1 => quiet ρ1 vs ∧ dcD vs G T A B ds [] (blank ρ1 vs) (fun acc ρ2 => P (.dic acc) (back ρ1 ρ2 vs)) noR) R
theorem dc_it {J : It} {n : Nat} {G : Hp → Prop} {Y : Nat → Hp → V → Hp → Prop} (w : Walk J n G Y) {g : TG} {tt : TT} {tk tv : TE} {vs : List Nat} {σ : St} {H1 : Hp} {D : Addr} {Qd : Hp → Prop} (Pv : Nat → Hp → Prop) (h0 : Pv 0 (upd H1 D (.dK []))) (hG : ∀ i H, i ≤ n → Pv i H → G H)
    (hs : ∀ i x H H', i < n → Pv i H → Y i H x H' → g x (wipe σ vs) H' fun σ2 H2 => wipe σ2 vs = wipe σ vs ∧ tt σ2 H2 fun b H3 =>
      if b = true then tk σ2 H3 fun y H4 => tv σ2 H4 fun z H5 => ∃ kvs k, y = kV k ∧ H5 D = some (.dK kvs) ∧ kvs.length < sizeLine ∧ Pv (i + 1) (upd H5 D (.dK (putK kvs k z))) else Pv (i + 1) H3) (hd : ∀ H, Pv n H → Qd H) :
    ∃ W : Nat → Nat → Hp → Prop, (∃ m, W 0 m (upd H1 D (.dK []))) ∧ ∀ i m H, W i m H →
      (J.stop i H ∧ Qd H) ∨ (J.go i H ∧ ∃ Nx : Hp → Prop, (∀ H', Nx H' → ∃ m', m' < m ∧ W (i + 1) m' H') ∧ ∀ x H', J.yld i H x H' → g x (wipe σ vs) H' fun σ2 H2 => wipe σ2 vs = wipe σ vs ∧ tt σ2 H2 fun b H3 =>
        if b = true then tk σ2 H3 fun y H4 => tv σ2 H4 fun z H5 => ∃ kvs k, y = kV k ∧ H5 D = some (.dK kvs) ∧ kvs.length < sizeLine ∧ Nx (upd H5 D (.dK (putK kvs k z))) else Nx H3) := by
  refine ⟨fun i m H => m = n - i ∧ i ≤ n ∧ Pv i H, ⟨n, by simp, Nat.zero_le _, h0⟩, ?_⟩
  rintro i m H ⟨rfl, hi, p⟩
  have q := hG i H hi p
  by_cases hlt : i < n
  · exact .inr ⟨w.goes i H hlt q, Pv (i + 1), fun H' p' => ⟨n - (i + 1), by omega, rfl, hlt, p'⟩, fun x H' y => hs i x H H' hlt p (w.yields i H x H' hlt q y)⟩
  · have e : i = n := by omega
    subst e
    exact .inl ⟨w.stops H q, hd H p⟩
theorem l_dc {g : TG} {G : DG} {vs : List Nat} (gd : GD L.K L.J vs g G) {σ : St} {H : Hp} {Q : VK} (h : lF L (eDc Ii vs G T A B) σ H Q) : tDc (lI L Ii) g (lT L.blk T) (lE L.blk A) (lE L.blk B) vs σ H Q := by
  obtain ⟨m, H0, ρ, P, R, I, q, k, x⟩ := h
  refine ⟨m, H0, ρ, _, _, I, q, fun ds ρ1 H1 H1' Jt p ex1 I1 ⟨G1, Y, w, hG, hY⟩ D hD => ?_, x⟩
  obtain ⟨qt, p⟩ := p
  let Inw : Nat → Hp → Prop := fun i H2 => ∃ H02 ρ2 acc da, i ≤ ds.length ∧ Ex H1 H02 ∧ H2 D = some (.dK acc) ∧ OwR L.K H02 (.dK acc) (.dic da) ∧ In L.K L.J (m.gh D (.dK acc)) (wipe σ vs) ρ2 H02 H2 ∧ dcD vs G T A B (ds.drop i) da ρ2 (fun acc ρ2 => P (.dic acc) (back ρ1 ρ2 vs)) noR ∧ (∀ g ∈ m.G, g.1 ≠ D)
  have hDg : ∀ g ∈ m.G, g.1 ≠ D := fun g hg => ne_of_none (I1.gh g hg).2.1 hD
  refine dc_it w Inw ?_ (fun i H2 hi ⟨H02, ρ2, acc, da, _, ex2, _, _, I2, _⟩ => hG (fun g hg => List.mem_cons_of_mem _ hg) ex2 I2) ?_ ?_
  · have I2 := I1.allocP L.ok (o := .dK []) hD
    have I3 := (I2.blanks vs)
    refine ⟨H1, blank ρ1 vs, [], [], Nat.zero_le _, Ex.refl _, upd_same, ⟨rfl, .nil⟩, I3.ghost (I1.free hD) upd_same (I1.fresh_new hD) ?_ trivial, by simpa using p, hDg⟩
    exact (I1.blanks vs).ne_new hD
  · rintro i xv H2 H3 hi ⟨H02, ρ2, acc, da, _, ex2, hacc, racc, I2, q2, _⟩ y
    obtain ⟨H03, d, ex3, I3, ed, rd⟩ := hY (fun g hg => List.mem_cons_of_mem _ hg) hi ex2 I2 y
    have hd : ds.drop i = d :: ds.drop (i + 1) := by
      rw [List.drop_eq_getElem_cons hi]
      congr 1
      rw [List.getElem?_eq_getElem hi] at ed
      exact Option.some.inj ed
    rw [hd] at q2
    refine gd I3 rd q2 fun ρ4 σ4 q4 I4 w4 => ⟨w4.trans (wipe_idem σ vs), ?_⟩
    refine ⟨_, H03, ρ4, _, noR, I4, q4, fun b ρ5 H05 H5 p5 ex5 I5 => ?_, fun _ _ _ _ _ _ z => z.elim⟩
    have hw : wipe σ4 vs = wipe σ vs := w4.trans (wipe_idem σ vs)
    cases b with
    | true =>
      rw [if_pos rfl] at p5
      refine iteT ?_
      refine ⟨_, H05, ρ5, _, noR, I5, p5, fun yd ρ6 vy H06 H6 p6 ex6 I6 r6 => ?_, fun _ _ _ _ _ _ z => z.elim⟩
      refine ⟨_, H06, ρ6, _, noR, I6, p6, fun zd ρ7 vz H07 H7 ⟨kx, ek, hz, p7⟩ ex7 I7' r7 => ?_, fun _ _ _ _ _ _ z => z.elim⟩
      have exa : Ex H02 H07 := ((ex3.trans ex5).trans ex6).trans ex7
      obtain ⟨I7, n7, h7, he7, ne7, w7⟩ := I7'.unghost
      obtain ⟨e1, ra⟩ := racc
      have hlen : acc.length < sizeLine := by
        have := congrArg List.length e1
        simp only [List.length_map] at this
        omega
      obtain ⟨f1, f2⟩ := rep_putD (k := kx) e1 (ra.mono exa) r7
      refine ⟨acc, kx, keyOf_kV (r6.mono ex7) ek, h7, hlen, H07, blank ρ7 vs, putK acc kx vz, putD da kx zd, hi, ex2.trans exa, upd_same, ⟨f1, f2⟩, ?_, p7, hDg⟩
      have I8 := I7.turnG L.ok (o' := .dK (putK acc kx vz)) n7 h7 trivial he7 ne7 hDg
      have I9 := I8.blanks vs
      rw [hw] at I9
      refine I9.ghost n7 upd_same he7 (fun i d hi e => ?_) trivial
      by_cases c : i ∈ vs
      · have : (wipe σ vs)[i]? = some (some (.ref D)) := e
        obtain ⟨_, nm⟩ := wipe_some this
        exact nm c
      · rw [blank_other c] at hi
        rw [← hw, wipe_other c] at e
        exact ne7 i d hi e
    | false =>
      rw [if_neg Bool.false_ne_true] at p5
      refine iteF ?_
      obtain ⟨I7, n7, h7, he7, ne7, w7⟩ := I5.unghost
      refine ⟨H05, blank ρ5 vs, acc, da, hi, (ex2.trans ex3).trans ex5, h7, racc.mono (ex3.trans ex5), ?_, p5, hDg⟩
      have I9 := I7.blanks vs
      rw [hw] at I9
      refine I9.ghost n7 h7 he7 (fun i d hi e => ?_) trivial
      by_cases c : i ∈ vs
      · have : (wipe σ vs)[i]? = some (some (.ref D)) := e
        obtain ⟨_, nm⟩ := wipe_some this
        exact nm c
      · rw [blank_other c] at hi
        rw [← hw, wipe_other c] at e
        exact ne7 i d hi e
  · rintro H2 ⟨H02, ρ2, acc, da, _, ex2, hacc, racc, I2, q2, _⟩
    rw [List.drop_length] at q2
    obtain ⟨I7, n7, h7, he7, ne7, w7⟩ := I2.unghost
    have I8 := In.backs I1 qt ex2 I7
    refine k (.dic da) _ D H02 H2 q2 (ex1.trans ex2) I8 ⟨n7, ⟨_, h7, racc⟩, he7, fun i d hi e => ?_, hDg⟩
    by_cases c : i ∈ vs
    · have hi' : i < ρ2.length := by
        have := (List.getElem?_eq_some_iff.mp hi).1
        rw [back_length] at this; exact this
      rw [back_own c hi'] at hi
      cases qq : ρ1[i]? with
      | none => rw [qq] at hi; cases hi
      | some s =>
        rw [qq] at hi
        exact (qt i c d).1 (by rw [qq]; exact hi)
    · rw [back_other c] at hi
      rw [← wipe_other c] at e
      exact ne7 i d hi e
theorem ef_dc (hc : X.calm = true) (hN : X.N.Nodup) (hi : PI X tg iter (lI L Ii)) (ok : BlkOk X.N X.env.scope scope own) (gd : GD L.K L.J (own.map (·.2)) g G)
    (hg : ∀ (s : Shared) (H : Hp) (C : Addr) (cl : List (Str × Addr)) (fp : List Addr), PG (X.blk s H scope (compEnvC scope cl C X.env) fp) tg g)
    (ht : ∀ (s : Shared) (H : Hp) (C : Addr) (cl : List (Str × Addr)) (fp : List Addr), PTs (X.blk s H scope (compEnvC scope cl C X.env) fp) ifs (lT L.blk T))
    (hk : ∀ (s : Shared) (H : Hp) (C : Addr) (cl : List (Str × Addr)) (fp : List Addr), PE (X.blk s H scope (compEnvC scope cl C X.env) fp) kx (lE L.blk A))
    (he : ∀ (s : Shared) (H : Hp) (C : Addr) (cl : List (Str × Addr)) (fp : List Addr), PE (X.blk s H scope (compEnvC scope cl C X.env) fp) vx (lE L.blk B)) (hs : ∀ x, foldedSetIterable iter X.env x = pure x := by intro _; rfl) :
    PE X (.DictComp kx vx [⟨tg, iter, ifs, 0⟩] scope pos) (lF L (eDc Ii (own.map (·.2)) G T A B)) :=
  PE.weak (pe_dc hc hN hi ok hg ht hk he hs) fun _ _ _ => l_dc gd
/-- {k: v} with one pair -/
def eD1 (A B : DE) : DE := fun ρ P R => A ρ (fun y ρ1 => B ρ1 (fun z ρ2 => ∃ k, keyOf y = some k ∧ P (.dic [(k, z)]) ρ2) R) R
theorem ef_d1 (ha : PE X a (lE L A)) (hb : PE X b (lE L B)) : PE X (.Dict [some a] [b] pos) (lF L (eD1 A B)) :=
  PE.weak (pe_disp (pps_cons ha hb pps_nil) rfl rfl (by simp) (by simp)) fun σ H Q ⟨m, H0, ρ, P, R, I, q, k, x⟩ => fun p hp => by
    have I1 := I.allocP L.ok (o := .dK []) hp
    have I2 := I1.ghost (I.free hp) upd_same (I.fresh_new hp) (I.ne_new hp) trivial
    refine ⟨_, H0, ρ, _, R, I2, q, fun y ρ1 vy H1 H1' q1 ex1 I3 r1 => ⟨_, H1, ρ1, _, R, I3, q1, fun z ρ2 vz H2 H2' ⟨kk, ek, pz⟩ ex2 I4 r2 => ?_, fun y ρ c dd a b r I5 xr => x y ρ c dd a b r I5.unghost.1 xr⟩, fun y ρ c dd a b r I5 xr => x y ρ c dd a b r I5.unghost.1 xr⟩
    obtain ⟨I5, n5, h5, he5, ne5, w5⟩ := I4.unghost
    have hg : ∀ g ∈ m.G, g.1 ≠ p := fun g hg => ne_of_none (I.gh g hg).2.1 hp
    refine ⟨h5, [(kk, vz)], ?_, by simp, ?_⟩
    · rw [keyOf_kV (r1.mono ex2) ek]; rfl
    · have I6 := I5.turnG L.ok (o' := .dK (mergeK [] [(kk, vz)])) n5 h5 trivial he5 ne5 hg
      exact k _ _ _ _ _ pz (ex1.trans ex2) I6 ⟨n5, ⟨_, upd_same, rfl, .cons r2 .nil⟩, he5, ne5, hg⟩

/-! ### a, b = x, y -/
section
variable {px pt : Pos} {kt k2 : Nat} {pt2 : Pos}
def sParSS (i j : Nat) (A B : DE) : DS := fun ρ P => A ρ (fun d ρ1 => B ρ1 (fun d' ρ2 => P.nx ((ρ2.set i (.s d)).set j (.s d'))) P.xe) P.xe
def sParOO (i j : Nat) (A B : DE) : DS := fun ρ P => A ρ (fun d ρ1 => B ρ1 (fun d' ρ2 => P.nx ((ρ2.set i (.o d)).set j (.o d'))) P.xe) P.xe
def sParSO (i j : Nat) (A B : DE) : DS := fun ρ P => A ρ (fun d ρ1 => B ρ1 (fun d' ρ2 => P.nx ((ρ2.set i (.s d)).set j (.o d'))) P.xe) P.xe
def sParOS (i j : Nat) (A B : DE) : DS := fun ρ P => A ρ (fun d ρ1 => B ρ1 (fun d' ρ2 => P.nx ((ρ2.set i (.o d)).set j (.s d'))) P.xe) P.xe
theorem sd_parSS (hc : X.calm = true) (hN : X.N.Nodup) (ha : PE X a (lE L A)) (hb : PE X b (lE L B)) (hi : X.N[i]? = some x := by rfl) (hj : X.N[j]? = some y := by rfl) (hij : i ≠ j := by decide) (hx : X.env.scope.names.lookup x = some .local := by rfl) (hy : X.env.scope.names.lookup y = some .local := by rfl)
    (hw : swappedStores [.Tuple [.Name x px, .Name y py] kt pt] (.Tuple [a, b] k2 pt2) X.env = pure (some [x, y]) := by rfl) (hs : swapsWithSole [.Tuple [.Name x px, .Name y py] kt pt] (.Tuple [a, b] k2 pt2) pos.line X.env = pure false := by rfl)
    (h1 : starEach (a :: [b]) X.env = (false, eval a X.env) :: starEach [b] X.env := by rfl) (h2 : starEach (b :: []) X.env = (false, eval b X.env) :: starEach [] X.env := by rfl) :
    PS X (.Assign [.Tuple [.Name x px, .Name y py] kt pt] (.Tuple [a, b] k2 pt2) pos) (lS L (sParSS i j A B)) :=
  PS.weak (ps_par hc hN hi hj hij hx hy (pa_cons ha (pa_cons hb pa_nil h2) h1) hw hs) fun Dn σ H ⟨m, H0, ρ, P, I, q, k⟩ => ⟨m, H0, ρ, _, _, I, q, fun d ρ1 v H1 H1' q1 ex1 I1 r1 => ⟨m, H1, ρ1, _, _, I1, q1, fun d' ρ2 v' H2 H2' p ex2 I2 r2 =>
    ⟨v, v', rfl, k.nx _ _ _ _ p (ex1.trans ex2) ((I2.set_s (r1.mono ex2)).set_s r2)⟩, k.xw σ⟩, k.xw σ⟩
theorem Fresh.set_s {K : PySem.W.Frag} {J : Hp → Prop} {m : Fm} {σ : St} {ρ : En} {H0 H : Hp} {c : Addr} {d d' : D} {v : V} (I : In K J m σ ρ H0 H) (f : Fresh K m σ ρ H0 H c d) (r : Rep K H0 v d') : Fresh K m (σ.set i (some v)) (ρ.set i (.s d')) H0 H c d :=
  ⟨f.n0, f.ob, f.he, fun j d1 h e => by
    rcases get_set h with ⟨rfl, _, z⟩ | ⟨c2, h⟩
    · cases z
    · rw [List.getElem?_set_ne c2] at e; exact f.ne j d1 h e, f.gh⟩
theorem sd_parSO (hc : X.calm = true) (hN : X.N.Nodup) (ha : PE X a (lE L A)) (hb : PE X b (lF L B)) (hi : X.N[i]? = some x := by rfl) (hj : X.N[j]? = some y := by rfl) (hij : i ≠ j := by decide) (hx : X.env.scope.names.lookup x = some .local := by rfl) (hy : X.env.scope.names.lookup y = some .local := by rfl)
    (hw : swappedStores [.Tuple [.Name x px, .Name y py] kt pt] (.Tuple [a, b] k2 pt2) X.env = pure (some [x, y]) := by rfl) (hs : swapsWithSole [.Tuple [.Name x px, .Name y py] kt pt] (.Tuple [a, b] k2 pt2) pos.line X.env = pure false := by rfl)
    (h1 : starEach (a :: [b]) X.env = (false, eval a X.env) :: starEach [b] X.env := by rfl) (h2 : starEach (b :: []) X.env = (false, eval b X.env) :: starEach [] X.env := by rfl) :
    PS X (.Assign [.Tuple [.Name x px, .Name y py] kt pt] (.Tuple [a, b] k2 pt2) pos) (lS L (sParSO i j A B)) :=
  PS.weak (ps_par hc hN hi hj hij hx hy (pa_cons ha (pa_cons hb pa_nil h2) h1) hw hs) fun Dn σ H ⟨m, H0, ρ, P, I, q, k⟩ => ⟨m, H0, ρ, _, _, I, q, fun d ρ1 v H1 H1' q1 ex1 I1 r1 => ⟨m, H1, ρ1, _, _, I1, q1, fun d' ρ2 c H2 H2' p ex2 I2 f2 =>
    ⟨v, .ref c, rfl, k.nx _ _ _ _ p (ex1.trans ex2) ((I2.set_s (r1.mono ex2)).set_o (Fresh.set_s I2 f2 (r1.mono ex2)))⟩, k.xw σ⟩, k.xw σ⟩
/-- fresh, and to stay so while more is reckoned -/
theorem Fresh.hold {K : PySem.W.Frag} {J : Hp → Prop} {m : Fm} {σ : St} {ρ : En} {H0 H : Hp} {c : Addr} {d : D} (I : In K J m σ ρ H0 H) (f : Fresh K m σ ρ H0 H c d) : ∃ o, OwR K H0 o d ∧ In K J (m.gh c o) σ ρ H0 H := by
  obtain ⟨o, h, r⟩ := f.ob
  exact ⟨o, r, I.ghost f.n0 h f.he f.ne r.wr⟩
theorem Fresh.held {K : PySem.W.Frag} {J : Hp → Prop} {m : Fm} {σ : St} {ρ : En} {H0 H H00 : Hp} {c : Addr} {d : D} {o : HO} (r : OwR K H00 o d) (e : Ex H00 H0) (I : In K J (m.gh c o) σ ρ H0 H) (hg : ∀ g ∈ m.G, g.1 ≠ c) : In K J m σ ρ H0 H ∧ Fresh K m σ ρ H0 H c d := by
  obtain ⟨I1, n, h, he, ne, w⟩ := I.unghost
  exact ⟨I1, n, ⟨o, h, r.mono e⟩, he, ne, hg⟩
theorem sd_parOS (hc : X.calm = true) (hN : X.N.Nodup) (ha : PE X a (lF L A)) (hb : PE X b (lE L B)) (hi : X.N[i]? = some x := by rfl) (hj : X.N[j]? = some y := by rfl) (hij : i ≠ j := by decide) (hx : X.env.scope.names.lookup x = some .local := by rfl) (hy : X.env.scope.names.lookup y = some .local := by rfl)
    (hw : swappedStores [.Tuple [.Name x px, .Name y py] kt pt] (.Tuple [a, b] k2 pt2) X.env = pure (some [x, y]) := by rfl) (hs : swapsWithSole [.Tuple [.Name x px, .Name y py] kt pt] (.Tuple [a, b] k2 pt2) pos.line X.env = pure false := by rfl)
    (h1 : starEach (a :: [b]) X.env = (false, eval a X.env) :: starEach [b] X.env := by rfl) (h2 : starEach (b :: []) X.env = (false, eval b X.env) :: starEach [] X.env := by rfl) :
    PS X (.Assign [.Tuple [.Name x px, .Name y py] kt pt] (.Tuple [a, b] k2 pt2) pos) (lS L (sParOS i j A B)) :=
  PS.weak (ps_par hc hN hi hj hij hx hy (pa_cons ha (pa_cons hb pa_nil h2) h1) hw hs) fun Dn σ H ⟨m, H0, ρ, P, I, q, k⟩ => ⟨m, H0, ρ, _, _, I, q, fun d ρ1 c H1 H1' q1 ex1 I1 f1 => by
    obtain ⟨o, ro, Ig⟩ := f1.hold I1
    refine ⟨_, H1, ρ1, _, _, Ig, q1, fun d' ρ2 v' H2 H2' p ex2 I2 r2 => ?_, fun y ρ c dd a b r I5 xr => k.xe y ρ σ c dd a b r I5.unghost.1 xr⟩
    obtain ⟨I3, f3⟩ := Fresh.held ro ex2 I2 f1.gh
    exact ⟨.ref c, v', rfl, k.nx _ _ _ _ p (ex1.trans ex2) ((I3.set_o f3).set_s r2)⟩, k.xw σ⟩
theorem sd_parOO (hc : X.calm = true) (hN : X.N.Nodup) (ha : PE X a (lF L A)) (hb : PE X b (lF L B)) (hi : X.N[i]? = some x := by rfl) (hj : X.N[j]? = some y := by rfl) (hij : i ≠ j := by decide) (hx : X.env.scope.names.lookup x = some .local := by rfl) (hy : X.env.scope.names.lookup y = some .local := by rfl)
    (hw : swappedStores [.Tuple [.Name x px, .Name y py] kt pt] (.Tuple [a, b] k2 pt2) X.env = pure (some [x, y]) := by rfl) (hs : swapsWithSole [.Tuple [.Name x px, .Name y py] kt pt] (.Tuple [a, b] k2 pt2) pos.line X.env = pure false := by rfl)
    (h1 : starEach (a :: [b]) X.env = (false, eval a X.env) :: starEach [b] X.env := by rfl) (h2 : starEach (b :: []) X.env = (false, eval b X.env) :: starEach [] X.env := by rfl) :
    PS X (.Assign [.Tuple [.Name x px, .Name y py] kt pt] (.Tuple [a, b] k2 pt2) pos) (lS L (sParOO i j A B)) :=
  PS.weak (ps_par hc hN hi hj hij hx hy (pa_cons ha (pa_cons hb pa_nil h2) h1) hw hs) fun Dn σ H ⟨m, H0, ρ, P, I, q, k⟩ => ⟨m, H0, ρ, _, _, I, q, fun d ρ1 c H1 H1' q1 ex1 I1 f1 => by
    obtain ⟨o, ro, Ig⟩ := f1.hold I1
    refine ⟨_, H1, ρ1, _, _, Ig, q1, fun d' ρ2 c2 H2 H2' p ex2 I2 f2 => ?_, fun y ρ c dd a b r I5 xr => k.xe y ρ σ c dd a b r I5.unghost.1 xr⟩
    obtain ⟨I3, f3⟩ := Fresh.held ro ex2 I2 f1.gh
    have hne : c ≠ c2 := fun z => f2.gh (c, o) List.mem_cons_self z
    have I4 := I3.set_o (i := i) f3
    have f4 : Fresh L.K m (σ.set i (some (.ref c))) (ρ2.set i (.o d)) H2 H2' c2 d' := ⟨f2.n0, f2.ob, f2.he, fun j d1 h e => by
      rcases get_set h with ⟨rfl, hl, z⟩ | ⟨c3, h⟩
      · rw [List.getElem?_set_self (by rw [I3.len]; exact hl)] at e
        injection e with e; injection e with e; injection e with e
        exact hne e
      · rw [List.getElem?_set_ne c3] at e; exact f2.ne j d1 h e, fun g hg => f2.gh g (List.mem_cons_of_mem _ hg)⟩
    exact ⟨.ref c, .ref c2, rfl, k.nx _ _ _ _ p (ex1.trans ex2) (I4.set_o f4)⟩, k.xw σ⟩
end

/-! ### stars -/
theorem ad_star (he : PE X e (lE L A)) (hr : PA X es (lA L As)) (hK : L.K = X.K := by rfl) (hs : starEach (.Starred e p :: es) X.env = (true, eval e X.env) :: starEach es X.env := by rfl) : PA X (.Starred e p :: es) (lA L (aStar A As)) :=
  PA.weak (StX.pa_star he hr hs) fun σ H Q ⟨m, H0, ρ, P, R, I, q, k, x⟩ => ⟨m, H0, ρ, _, R, I, q, fun d ρ1 v H1 H1' ⟨ys, ey, q1⟩ ex1 I1 r1 => by
    rcases ey with rfl | rfl
    · obtain ⟨a, ws, rfl, hs, rs⟩ := r1.lst_inv
      exact ⟨a, ws, rfl, .inr (SqL.of (I1.sub _ _ hs)), m, H1, ρ1, _, R, I1, q1, fun ds ρ2 vs H2 H2' q2 ex2 I2 r2 => k _ _ _ _ _ q2 (ex1.trans ex2) I2 ((rs.mono ex2).append r2), x⟩
    · obtain ⟨a, ws, rfl, hs, rs⟩ := r1.tup_inv
      exact ⟨a, ws, rfl, .inl (by rw [← hK]; exact ex_t I1.sub hs), m, H1, ρ1, _, R, I1, q1, fun ds ρ2 vs H2 H2' q2 ex2 I2 r2 => k _ _ _ _ _ q2 (ex1.trans ex2) I2 ((rs.mono ex2).append r2), x⟩, x⟩

/-! ### two ints; minus -/
def dMax2 : D → D → (D → Prop) → Prop
  | .int i, .int j, P => P (.int (if j > i then j else i))
  | _, _, _ => False
def dMin2 : D → D → (D → Prop) → Prop
  | .int i, .int j, P => P (.int (if j < i then j else i))
  | _, _, _ => False
theorem ed_max2 (hc : X.calm = true) (hm : X.mg "max" = none) (ha : PE X a (lE L A)) (hb : PE X b (lE L B)) (hg : Gl X "max" := by rfl)
    (h1 : starEach (a :: [b]) X.env = (false, eval a X.env) :: starEach [b] X.env := by rfl) (h2 : starEach (b :: []) X.env = (false, eval b X.env) :: starEach [] X.env := by rfl) (hpl : (backTo pos (starEach [b] X.env)).any (·.1) = false := by rfl) :
    PE X (.Call (.Name "max" p) [a, b] [] pos) (lE L (eBin dMax2 A B)) :=
  PE.weak (pe_callB (call_max2 hc) hg hm (by decide +kernel) (pa_cons ha (pa_cons hb pa_nil h2) h1) (by decide) (by decide) h1 hpl) fun σ H Q ⟨m, H0, ρ, P, R, I, q, k, x⟩ => ⟨m, H0, ρ, _, R, I, q, fun d ρ1 v H1 H1' q1 ex1 I1 r1 =>
    ⟨m, H1, ρ1, _, R, I1, q1, fun d' ρ2 v' H2 H2' q2 ex2 I2 r2 => by
      unfold dMax2 at q2
      split at q2
      · exact ⟨_, _, by rw [r1.int_inv, r2.int_inv], k _ _ _ _ _ q2 (ex1.trans ex2) I2 .int⟩
      · exact q2.elim, x⟩, x⟩
theorem ed_min2 (hc : X.calm = true) (hm : X.mg "min" = none) (ha : PE X a (lE L A)) (hb : PE X b (lE L B)) (hg : Gl X "min" := by rfl)
    (h1 : starEach (a :: [b]) X.env = (false, eval a X.env) :: starEach [b] X.env := by rfl) (h2 : starEach (b :: []) X.env = (false, eval b X.env) :: starEach [] X.env := by rfl) (hpl : (backTo pos (starEach [b] X.env)).any (·.1) = false := by rfl) :
    PE X (.Call (.Name "min" p) [a, b] [] pos) (lE L (eBin dMin2 A B)) :=
  PE.weak (pe_callB (call_min2 hc) hg hm (by decide +kernel) (pa_cons ha (pa_cons hb pa_nil h2) h1) (by decide) (by decide) h1 hpl) fun σ H Q ⟨m, H0, ρ, P, R, I, q, k, x⟩ => ⟨m, H0, ρ, _, R, I, q, fun d ρ1 v H1 H1' q1 ex1 I1 r1 =>
    ⟨m, H1, ρ1, _, R, I1, q1, fun d' ρ2 v' H2 H2' q2 ex2 I2 r2 => by
      unfold dMin2 at q2
      split at q2
      · exact ⟨_, _, by rw [r1.int_inv, r2.int_inv], k _ _ _ _ _ q2 (ex1.trans ex2) I2 .int⟩
      · exact q2.elim, x⟩, x⟩
def dNeg : D → (D → Prop) → Prop
  | .int i, P => P (.int (-i))
  | _, _ => False
theorem ed_neg (ha : PE X a (lE L A)) : PE X (.UnaryOp .USub a pos) (lE L (eUn dNeg A)) :=
  PE.weak (pe_un un_neg ha) fun σ H Q ⟨m, H0, ρ, P, R, I, q, k, x⟩ => ⟨m, H0, ρ, _, R, I, q, fun d ρ1 v H1 H1' q1 ex1 I1 r1 => by
    unfold dNeg at q1
    split at q1
    · exact ⟨_, r1.int_inv, k _ _ _ _ _ q1 ex1 I1 .int⟩
    · exact q1.elim, x⟩

/-! ### a local name that holds one of several defs; xs.index(y) -/
def eCallA (i : Nat) (S : Addr → Option DSp) (As : DA) : DE := fun ρ P R => ∃ f sp, ρ[i]? = some (.s (.glb f)) ∧ S f = some sp ∧ As ρ (fun ds ρ1 => sp ds (fun d _ => P d ρ1) (fun x _ => R x ρ1)) R
structure HeldD (P : Program) (w : World) (K : PySem.W.Frag) (mg : Str → Option Value) (base : Heap) (J : Hp → Prop) (k : Nat) (f : Addr) (sp : DSp) : Prop where
  ex : ∃ (fd : FuncData) (ps : List Str), FnOk P w K mg base (L2.CX P w) k f fd ps (spP K J sp) ∧ PySem.W.keepIn K (.ref f) = true ∧ Binds K fd ps []
theorem ed_callA {S : Addr → Option DSp} {k : Nat} (Ah : ∀ f sp, S f = some sp → HeldD X.prog X.w X.K X.mg X.base L.J k f sp) (hr : Room k X.A) (tk : Takes X L.W) (hW : WFlat L.W) (ha : PA X (e :: es) (lA L As)) (hN : X.N[i]? = some x := by rfl)
    (hv : Vis X.env.scope x := by first | exact Or.inl rfl | exact Or.inr (Or.inl rfl) | exact Or.inr (Or.inr rfl)) (hK : L.K = X.K := by rfl)
    (hdb : (x == ("__debug__" : Str)) = false := by decide) (hcd : (x == ("__classdict__" : Str)) = false := by decide)
    (he : starEach (e :: es) X.env = (false, eval e X.env) :: starEach es X.env := by rfl) (hpl : (backTo pos (starEach es X.env)).any (·.1) = false := by rfl) : PE X (.Call (.Name x p) (e :: es) [] pos) (lE L (eCallA i S As)) := by
  refine ⟨fun pins s σ H Q In' h => ?_⟩
  obtain ⟨m, H0, ρ, P, R, I, ⟨f, sp, ef, eS, q⟩, k, xw⟩ := h
  obtain ⟨fd, ps, F, hk, hb⟩ := (Ah f sp eS).ex
  obtain ⟨v, ev, rv⟩ := I.sl i _ ef
  obtain rfl := rv.glb_inv
  refine (pe_callL (i := i) (f := f) (dvs := []) (E := fun c d H => ∀ σ, L.W c d σ H) F hr hN hv hk hb .nil (passes_call tk fun _ _ _ _ z => z _) ha hdb hcd he hpl).run pins s σ H Q In' ⟨ev, m, H0, ρ, _, R, I, q, fun ds ρ1 vs H1 H1' q1 ex1 I1 r1 => ?_, xw⟩
  refine ⟨H1, ds, _, _, I1.sub, I1.j, by rw [← hK, List.append_nil]; exact r1, q1, fun d d0 v H0' H' pd S r => k d ρ1 v H0' H' pd (ex1.trans S.sh) (I1.called S) (by rw [hK]; exact r), fun y d0 c dd H0' H' pd S r σ' => hW _ _ _ _ _ (xw y ρ1 c dd H0' H' pd (I1.called S) (by rw [hK]; exact r))⟩
/-- xs.index(y) of flat items -/
def dIndex : D → D → (D → Prop) → Prop := fun x y P => ∃ l j z, x = .lst l ∧ flatD y = true ∧ l.all flatD = true ∧ l[j]? = some z ∧ dqv z y = true ∧ (∀ (m : Nat) z', m < j → l[m]? = some z' → dqv z' y = false) ∧ P (.int (j : Nat))
theorem ed_index {o : Expr} {apos cpos : Pos} (ho : PE X o (lE L A)) (ha : PE X e (lE L B)) (hK : L.K = X.K := by rfl) (hbase : attributeBase o "index" X.env (eval o X.env) = eval o X.env := by rfl)
    (hfew : ((backTo cpos (starEach (e :: []) X.env)).all (fun x => !x.1) && (backToKw cpos (keywordEach [] X.env)).all (fun x => x.1.isSome)
      && decide ((e :: []).length + ([] : List Keyword).length + (if ([] : List Keyword).isEmpty then 0 else 1) < 30)) = true := by rfl)
    (hline : (apos.endLine == cpos.line) = true := by rfl) (h1 : starEach (e :: []) X.env = (false, eval e X.env) :: starEach [] X.env := by rfl) (hplain : (backTo cpos (starEach [] X.env)).any (·.1) = false := by rfl) :
    PE X (.Call (.Attribute o "index" apos) [e] [] cpos) (lE L (fun ρ P R => A ρ (fun x ρ1 => (∃ l, x = .lst l) ∧ B ρ1 (fun y ρ2 => dIndex x y fun z => P z ρ2) R) R)) :=
  PE.weak (pe_bm PySem.F.plainAttrs_list PySem.F.slot_list_index PySem.F.type_list_index mt_index ho (pa_cons ha pa_nil h1) hbase hfew hline h1 hplain) fun σ H Q ⟨m, H0, ρ, P, R, I, q, k, x⟩ => ⟨m, H0, ρ, _, R, I, q, fun d ρ1 v H1 H1' ⟨⟨l0, el⟩, q1⟩ ex1 I1 r1 => by
    subst el
    obtain ⟨a, ws, rfl, hs, rs⟩ := r1.lst_inv
    refine ⟨tyV_l (I1.sub _ _ hs), m, H1, ρ1, _, R, I1, q1, fun d' ρ2 v' H2 H2' ⟨l, j, z, e1, fy, fl, hz, hq, hno, p⟩ ex2 I2 r2 => ?_, x⟩
    cases e1
    obtain ⟨wz, hw, rz⟩ := rs.get hz
    have rs2 := rs.mono ex2
    refine ⟨a, ws, v', j, wz, rfl, rfl, SqL.of (I2.sub _ _ (ex2 _ _ hs)), ?_, rs.flat fl, hw, ?_, fun mm z' hm hz' => ?_, k _ _ _ _ _ p (ex1.trans ex2) I2 .int⟩
    · cases r2 <;> first | rfl | (exact absurd fy Bool.false_ne_true)
    · rw [eqV_dqv rz r2 (List.all_eq_true.mp fl _ (List.mem_of_getElem? hz)) fy]; exact hq
    · obtain ⟨d3, hd3, r3⟩ := rs.get' hz'
      rw [eqV_dqv r3 r2 (List.all_eq_true.mp fl _ (List.mem_of_getElem? hd3)) fy]
      exact hno mm d3 hm hd3, x⟩
end
end DV

set_option Elab.async false
set_option linter.all false
set_option maxRecDepth 100000
set_option maxHeartbeats 4000000
/-! DV: sorted of pairs (int, tuple of ints); t[:0:-1]; a, b = e by a tuple; the module's names. -/
namespace SrtO
open PySem PyProof.Rows Srt
/-- first the int, then the tuple -/
def lexT (p q : Int × List Int) : Bool := if p.1 = q.1 then HT.lexLt p.2 q.2 else decide (p.1 < q.1)
theorem lexT_swo : Swo lexT := by
  refine ⟨fun x y h => ?_, fun x y z h1 h2 => ?_⟩
  · unfold lexT at h ⊢
    by_cases e : x.1 = y.1
    · rw [if_pos e] at h; rw [if_pos e.symm]; exact NtL.lex_asym _ _ h
    · rw [if_neg e] at h; rw [if_neg (Ne.symm e)]
      have := of_decide_eq_true h
      exact decide_eq_false (by omega)
  · unfold lexT at h1 h2 ⊢
    by_cases e1 : y.1 = x.1
    · rw [if_pos e1] at h1
      by_cases e2 : z.1 = y.1
      · rw [if_pos e2] at h2; rw [if_pos (e2.trans e1)]; exact NtL.lex_tr _ _ _ h1 h2
      · rw [if_neg e2] at h2
        have b := of_decide_eq_false h2
        rw [if_neg (by omega)]; exact decide_eq_false (by omega)
    · rw [if_neg e1] at h1
      have a := of_decide_eq_false h1
      by_cases e2 : z.1 = y.1
      · rw [if_neg (by omega)]; exact decide_eq_false (by omega)
      · rw [if_neg e2] at h2
        have b := of_decide_eq_false h2
        rw [if_neg (by omega)]; exact decide_eq_false (by omega)
theorem lexT_k {α : Type} (k : α → Int × List Int) : Swo fun v u : α => lexT (k v) (k u) := ⟨fun x y => lexT_swo.asym _ _, fun x y z => lexT_swo.tr _ _ _⟩
/-- v is a tuple of an int and a tuple of ints -/
def IsPT (h : Heap) (v : Value) (p : Int × List Int) : Prop := ∃ a o t b n its, v = .ref a ∧ h.get? a = some o ∧ o.cls = .type "tuple" ∧ o.data = .seq #[.int p.1 t, .ref b] n ∧ h.IsTuple b its ∧ IntsAre its.toList p.2
theorem IsPT.keeps {h h' : Heap} {v : Value} {p : Int × List Int} (x : IsPT h v p) (k : ∀ b o, h.get? b = some o → o.cls = .type "tuple" → h'.get? b = some o) : IsPT h' v p := by
  obtain ⟨a, o, t, b, n, its, e, ho, hc, hd, hb, hi⟩ := x
  obtain ⟨o2, ho2, hc2, hd2⟩ := hb
  exact ⟨a, o, t, b, n, its, e, k _ _ ho hc, hc, hd, ⟨o2, k _ _ ho2 hc2, hc2, hd2⟩, hi⟩
theorem ints_inj : ∀ {vs : List Value} {ns ms : List Int}, IntsAre vs ns → IntsAre vs ms → ns = ms
  | _, _, _, .nil, .nil => rfl
  | _, _, _, .cons _ _ h, .cons _ _ h' => by rw [ints_inj h h']
theorem IsPT.inj {h : Heap} {v : Value} {p q : Int × List Int} (x : IsPT h v p) (y : IsPT h v q) : p = q := by
  obtain ⟨a, o, t, b, n, its, e, ho, hc, hd, ⟨o2, ho2, hc2, m2, hd2⟩, hi⟩ := x
  obtain ⟨a', o', t', b', n', its', e', ho', hc', hd', ⟨o2', ho2', hc2', m2', hd2'⟩, hi'⟩ := y
  rw [e] at e'; cases e'
  rw [ho] at ho'; cases ho'
  rw [hd] at hd'
  injection hd' with q1 q2
  have q3 : (Value.int p.1 t :: Value.ref b :: []) = (Value.int q.1 t' :: Value.ref b' :: []) := by
    have := congrArg Array.toList q1; simpa using this
  injection q3 with q4 q5
  injection q4 with q4
  injection q5 with q5
  injection q5 with q5
  subst q5
  rw [ho2] at ho2'; cases ho2'
  rw [hd2] at hd2'
  injection hd2' with q6 q7
  subst q6
  exact Prod.ext q4 (ints_inj hi hi')
section
variable {prog : Program} {w : World} {A : Around} {E : Value → Shared → Prop} {s : Shared}
theorem ptups_eq {A : Around} {s : Shared} {b b' : Addr} {its its' : Array Value} {ns ms : List Int} (hb : s.heap.IsTuple b its) (hb' : s.heap.IsTuple b' its') (hi : IntsAre its.toList ns) (hi' : IntsAre its'.toList ms) (hu : A.in1.units + 64 < cLine) :
    SeqAt.EqAt A s (.ref b) (.ref b') (decide (ns = ms)) := by
  by_cases e : b = b'
  · subst e
    obtain ⟨o, ho, hc, m, hd⟩ := hb
    obtain ⟨o', ho', hc', m', hd'⟩ := hb'
    rw [ho] at ho'; cases ho'
    rw [hd] at hd'; injection hd' with q1 q2
    subst q1
    rw [decide_eq_true (ints_inj hi hi')]
    exact SeqAt.EqAt.same _
  · have h := SeqAt.RcAt.tuples (A := A) (s := s) (e := fun j => ns.getD j 0 == ms.getD j 0) hb hb' (by have : A.in1.units = A.units + 1 := rfl; omega) fun j h1 h2 => by
      have g1 : its.toList[j]? = some its[j] := by rw [Array.getElem?_toList, Array.getElem?_eq_getElem h1]
      have g2 : its'.toList[j]? = some its'[j] := by rw [Array.getElem?_toList, Array.getElem?_eq_getElem h2]
      obtain ⟨t, e1⟩ := hi.int_at j _ g1
      obtain ⟨t', e2⟩ := hi'.int_at j _ g2
      rw [e1, e2]
      exact SeqAt.EqAt.int_int _ _ _ _
    have l1 : its.size = ns.length := by rw [← Array.length_toList, hi.length]
    have l2 : its'.size = ms.length := by rw [← Array.length_toList, hi'.length]
    have e3 : ((List.range (min its.size its'.size)).all (fun j => ns.getD j 0 == ms.getD j 0) && its.size == its'.size) = decide (ns = ms) := by
      rw [l1, l2]
      by_cases c : ns = ms
      · subst c; rw [decide_eq_true rfl]; simp
      · rw [decide_eq_false c]
        rcases bcase ((List.range (min ns.length ms.length)).all (fun j => ns.getD j 0 == ms.getD j 0) && ns.length == ms.length) with q | q
        · exfalso
          rw [Bool.and_eq_true, List.all_eq_true] at q
          obtain ⟨q1, q2⟩ := q
          have q2 := eq_of_beq q2
          refine c (List.ext_getElem? fun j => ?_)
          by_cases cj : j < ns.length
          · have := eq_of_beq (q1 j (List.mem_range.mpr (by omega)))
            rw [List.getD_eq_getElem?_getD, List.getD_eq_getElem?_getD, List.getElem?_eq_getElem cj, List.getElem?_eq_getElem (by omega : j < ms.length)] at this
            rw [List.getElem?_eq_getElem cj, List.getElem?_eq_getElem (by omega : j < ms.length)]
            exact congrArg some this
          · rw [List.getElem?_eq_none (by omega), List.getElem?_eq_none (by omega)]
        · exact q
    rw [e3] at h
    exact SeqAt.EqAt.of_refs e h
theorem pt_cmp {vs : List Value} {k : Value → Int × List Int} (hu : A.in1.units + 64 < cLine) (hp : ∀ v ∈ vs, IsPT s.heap v (k v)) : Cmp prog w A s (tuples' true) (fun p => p.1 ∈ vs) (lt2 fun v u => lexT (k v) (k u)) := by
  intro p q hm hm'
  have h1 := hp _ hm
  have h2 := hp _ hm'
  show wpAny (model prog w) A (keyLt' (tuples' true) p.1 q.1) (fun r s' => s' = s ∧ r = lexT (k p.1) (k q.1)) (fun _ _ => False) s
  generalize k p.1 = x at h1 ⊢
  generalize k q.1 = y at h2 ⊢
  obtain ⟨a, o, t, b, n, its, e, ho, hc, hd, hb, hi⟩ := h1
  obtain ⟨a', o', t', b', n', its', e', ho', hc', hd', hb', hi'⟩ := h2
  rw [e, e']
  refine PySem.W.kat_lt ho hd ho' hd' ?_
  show PySem.W.KatLex prog w A true (decide (2 < 2)) _ [(.int x.1 t, .int y.1 t'), (.ref b, .ref b')] 0 s
  refine PySem.W.kat_cons (SeqAt.EqAt.int_int x.1 t y.1 t' prog w _ _ ?_)
  refine PySem.W.kat_go (fun e1 => ?_) (fun e1 => ?_)
  · have ex : x.1 = y.1 := by simpa using e1
    refine PySem.W.kat_yes (PySem.W.kat_cons (ptups_eq hb hb' hi hi' hu prog w _ _ ?_))
    refine PySem.W.kat_go (fun e2 => ?_) (fun e2 => ?_)
    · have ey : x.2 = y.2 := of_decide_eq_true e2
      have e3 : lexT x y = false := by
        have : x = y := Prod.ext ex ey
        rw [this]; exact lexT_swo.refl _
      exact PySem.W.kat_yes (PySem.W.kat_nil ⟨rfl, e3.symm⟩)
    · have e3 : lexT x y = HT.lexLt x.2 y.2 := if_pos ex
      refine PySem.W.kat_no (PySem.W.kat_one _ _ (HT.lt_tupInts hb hb' hi hi' (by have : A.in1.units = A.units + 1 := rfl; omega) ?_))
      exact (show s = s ∧ HT.lexLt x.2 y.2 = lexT x y from ⟨rfl, e3.symm⟩)
  · have ex : ¬ x.1 = y.1 := by simpa using e1
    have e3 : lexT x y = decide (x.1 < y.1) := if_neg ex
    exact PySem.W.kat_no (oneLt_int ⟨rfl, e3.symm⟩)
theorem pt_firsts {h : Heap} : ∀ {vs : List Value}, (∀ v ∈ vs, ∃ p, IsPT h v p) → ∃ fs : List Value, PySem.W.KatTups h vs fs ∧ fs.length = vs.length ∧ ∀ f ∈ fs, ∃ x t, f = Value.int x t
  | [], _ => ⟨[], PySem.W.KatTups.nil, rfl, fun _ hm => by simp at hm⟩
  | v :: vs, hp => by
    obtain ⟨fs, h1, h2, h3⟩ := pt_firsts (vs := vs) fun v' hm => hp v' (List.mem_cons_of_mem _ hm)
    obtain ⟨p, a, o, t, b, n, its, e, ho, hc, hd, _⟩ := hp v (List.mem_cons_self ..)
    subst e
    refine ⟨.int p.1 t :: fs, PySem.W.KatTups.cons ho hc hd rfl h1, by rw [List.length_cons, List.length_cons, h2], fun f hm => ?_⟩
    rcases List.mem_cons.mp hm with rfl | hm
    · exact ⟨p.1, t, rfl⟩
    · exact h3 f hm
theorem pt_sortableO {a : Addr} {vs : List Value} {k : Value → Int × List Int} (hu : A.in1.units + 64 < cLine) (h0 : 0 < vs.length) (hp : ∀ v ∈ vs, IsPT s.heap v (k v)) (ha : ∀ o, s.heap.get? a = some o → o.cls ≠ .type "tuple") : SortableO prog w A s a vs fun v u => lexT (k v) (k u) := by
  intro h' keep
  have hp' : ∀ v ∈ vs, IsPT h' v (k v) := fun v hm => (hp v hm).keeps fun b o e c => keep b o (fun z => by subst z; exact ha o e c) e
  obtain ⟨fs, h1, h2, h3⟩ := pt_firsts fun v hm => ⟨_, hp' v hm⟩
  refine ⟨tuples' true, fun Q E hq => ?_, pt_cmp hu hp'⟩
  refine PySem.W.kat_kind (T := .type "int") h1 (by omega) (fun f hm => ?_) (by rfl) ?_
  · obtain ⟨x, t, rfl⟩ := h3 f hm
    exact PySem.W.Looks.now
  · have e : (Value.type "int" != Value.type "tuple") = true := by first | decide +kernel | rfl | decide
    rw [e]
    exact hq
theorem sorted_pt {l : Addr} {vs : List Value} {k : Value → Int × List Int} {Q : Value → Shared → Prop} (hu : A.in1.in1.in1.units + 64 < cLine) (hl : s.heap.IsList l vs.toArray) (hz : vs.length ≤ sizeLine) (hp : ∀ v ∈ vs, IsPT s.heap v (k v))
    (h : ∀ (h' : Heap) (d : Addr) (out : List Value), Srtd (fun v u => lexT (k v) (k u)) out → Stb (fun v u => lexT (k v) (k u)) out vs → (∀ b o, s.heap.get? b = some o → h'.get? b = some o) → s.heap.objs.size ≤ d → (∃ n, h'.get? d = some (seqObj "list" out.toArray n)) → Q (.ref d) { s with heap := h' }) :
    wpAny (model prog w) A (call (.builtin "sorted") [.ref l]) Q E s := by
  refine sorted_ord (lexT_k k) hl hz (fun h2 h₁ a ha kk => ?_) fun out hs hb => ?_
  · refine pt_sortableO (s := { s with heap := h₁ }) hu (by omega) (fun v hm => (hp v hm).keeps fun b o e _ => (kk b o e).2) fun o e => ?_
    have e' : some o = some (seqObj "list" vs.toArray 0) := e.symm.trans ha
    cases e'
    intro c
    exact absurd (Value.type.inj c) (by decide)
  · exact h _ _ out hs hb (fun b o e => sortedAll_old e) (Nat.le_succ _) (sortedAll_at s.heap vs out.toArray)
end
end SrtO
namespace L2
open PySem PySem.Spec PyProof.Rows
/-- x is a pair of an int and a tuple of ints -/
def PTV (K : PySem.W.Frag) (H : Hp) (x : V) (p : Int × List Int) : Prop := ∃ t b, x = .ref t ∧ SqT K H t [.int p.1, .ref b] ∧ SqT K H b (p.2.map V.int)
def rSortedPT (K : PySem.W.Frag) : List V → Hp → VK → Prop := fun vs H Q => ∃ (a : Addr) (zs : List (V × (Int × List Int))), vs = [V.ref a] ∧ SqL K H a (zs.map (·.1)) ∧ (∀ z ∈ zs, PTV K H z.1 z.2) ∧
  ∀ (zs' : List (V × (Int × List Int))) p, SrtO.Srtd SrtO.lexT (zs'.map (·.2)) → (zs'.map (·.2)).Perm (zs.map (·.2)) → (∀ z ∈ zs', z ∈ zs) → H p = none → Q (.ref p) (upd H p (.lst (zs'.map (·.1))))
section
variable {X : Cx}
theorem vals_get : ∀ {xs : List V} {us : List Value} {i : Nat} {u : Value}, Vals xs us → us[i]? = some u → ∃ x, xs[i]? = some x ∧ RelV x u
  | _, _, i, u, .nil, h => by simp at h
  | x :: xs, w :: us, 0, u, .cons r _, h => by
    have : w = u := by simpa using h
    exact ⟨x, rfl, by rw [← this]; exact r⟩
  | x :: xs, w :: us, i + 1, u, .cons _ t, h => vals_get (i := i) t (by simpa using h)
theorem cr_sortedPT (hu : X.A.units + 67 < cLine) : CallR X (.builtin "sorted") (rSortedPT X.K) := by
  intro pins s σ H vs us Q I r h
  obtain ⟨a, zs, rfl, hs, hz', q⟩ := h
  obtain ⟨its, rv, hl, hz⟩ := I.list hs
  obtain ⟨u, rfl, ru⟩ := vals1 r
  obtain rfl : u = Value.ref a := ru
  have pt : ∀ x p, PTV X.K H x p → ∀ u, RelV x u → SrtO.IsPT s.heap u p := fun x p ⟨t, b, e, h1, h2⟩ u ru => by
    subst e
    obtain rfl : u = Value.ref t := ru
    obtain ⟨it, r1, ⟨o, ho, hc, n, hd⟩, _⟩ := I.tuple h1
    obtain ⟨it2, r2, ht2, _⟩ := I.tuple h2
    obtain ⟨u1, u2, rfl, ri, rj⟩ := vals2 r1
    obtain ⟨t1, rfl⟩ := ri
    obtain rfl : u2 = Value.ref b := rj
    exact ⟨t, o, t1, b, n, it2.toArray, rfl, ho, hc, hd, ht2, intsAre_of r2⟩
  obtain ⟨e1, e2⟩ := refs_back rv fun x m => by
    obtain ⟨z, hz, rfl⟩ := List.mem_map.mp m
    obtain ⟨t, b, e, _⟩ := hz' z hz
    exact ⟨t, e⟩
  classical
  let k : Value → Int × List Int := fun u => if h : ∃ p, SrtO.IsPT s.heap u p then h.choose else (0, [])
  have kk : ∀ u p, SrtO.IsPT s.heap u p → k u = p := fun u p h => by
    have ex : ∃ p, SrtO.IsPT s.heap u p := ⟨p, h⟩
    show (if h : ∃ p, SrtO.IsPT s.heap u p then h.choose else (0, [])) = p
    rw [dif_pos ex]
    exact ex.choose_spec.inj h
  have at_ : ∀ u ∈ its, (backV u, k u) ∈ zs ∧ SrtO.IsPT s.heap u (k u) := fun u hu' => by
    obtain ⟨i, hi⟩ := List.getElem?_of_mem hu'
    obtain ⟨x, hx, rx⟩ := vals_get rv hi
    rw [List.getElem?_map] at hx
    cases ez : zs[i]? with
    | none => rw [ez] at hx; cases hx
    | some z =>
      rw [ez] at hx
      have hx : z.1 = x := Option.some.inj hx
      have hm := List.mem_of_getElem? ez
      have p1 := hz' z hm
      rw [hx] at p1
      have p2 := pt x z.2 p1 u rx
      rw [kk u _ p2]
      obtain ⟨t, b, e, h1, h2⟩ := p1
      subst e
      obtain rfl : u = Value.ref t := rx
      have ez2 : (backV (Value.ref t), z.2) = z := Prod.ext hx.symm rfl
      exact ⟨by rw [ez2]; exact hm, p2⟩
  have ks : its.map k = zs.map (·.2) := by
    refine List.ext_getElem? fun i => ?_
    rw [List.getElem?_map, List.getElem?_map]
    cases eu : its[i]? with
    | none =>
      have l1 := rv.length
      rw [List.length_map] at l1
      rw [List.getElem?_eq_none (by rw [l1]; exact List.getElem?_eq_none_iff.mp eu)]; rfl
    | some u =>
      obtain ⟨x, hx, rx⟩ := vals_get rv eu
      rw [List.getElem?_map] at hx
      cases ez : zs[i]? with
      | none => rw [ez] at hx; cases hx
      | some z =>
        rw [ez] at hx
        have hx : z.1 = x := Option.some.inj hx
        have p1 := hz' z (List.mem_of_getElem? ez)
        rw [hx] at p1
        show some (k u) = some z.2
        rw [kk u _ (pt x z.2 p1 u rx)]
  refine SrtO.sorted_pt (k := k) (by have e : X.A.in1.in1.in1.units = X.A.units + 3 := rfl; omega) hl.isList (by rw [← rv.length]; exact hz) (fun v hv => (at_ v hv).2) fun h' d out h1 h2 kp hd hn => ?_
  have ho : ∀ u ∈ out, u ∈ its := fun u hu => h2.perm.mem_iff.mp hu
  have h3 : ∀ u ∈ out, ∃ a, u = Value.ref a := fun u hu => e2 u (ho u hu)
  obtain ⟨n, hn⟩ := hn
  have em1 : (out.map fun u => (backV u, k u)).map (·.1) = out.map backV := by rw [List.map_map]; rfl
  have em2 : (out.map fun u => (backV u, k u)).map (·.2) = out.map k := by rw [List.map_map]; rfl
  refine ⟨.ref d, upd H d (.lst (out.map backV)), I.laid (t' := s.toks) kp hd ⟨?_, out, n, vals_back h3, hn⟩, rfl, ?_⟩
  · rw [List.length_map, h2.perm.length_eq, ← rv.length]; exact hz
  · rw [← em1]
    refine q _ d ?_ ?_ (fun z hz => ?_) (I.hok.fresh hd)
    · rw [em2]; exact SrtO.srtd_map h1
    · rw [em2, ← ks]; exact h2.perm.map k
    · obtain ⟨u, hu, rfl⟩ := List.mem_map.mp hz
      exact (at_ u (ho u hu)).1
end
end L2
namespace DV
open PySem L2
section
variable {X : Cx} {L : Li} {e a b : Expr} {A B : DE} {T U : DT} {pos : Pos} {rest : List Expr} {x : Str} {p : Pos} {es : List Expr} {As : DA} {S1 : DS}
def pD (p : Int × List Int) : D := .tup [.int p.1, .tup (p.2.map D.int)]
def dSortP : D → (D → Prop) → Prop := fun x P => ∃ ps : List (Int × List Int), x = .lst (ps.map pD) ∧ ∀ ps' : List (Int × List Int), SrtO.Srtd SrtO.lexT ps' → ps'.Perm ps → P (.lst (ps'.map pD))
theorem ptv_of {K : PySem.W.Frag} {H : Hp} {v : V} {p : Int × List Int} (r : Rep K H v (pD p)) : PTV K H v p := by
  obtain ⟨a, ws, rfl, h, r⟩ := r.tup_inv
  obtain ⟨v1, us, rfl, r1, r⟩ := r.cons_inv
  obtain ⟨v2, us, rfl, r2, r⟩ := r.cons_inv
  obtain rfl := r.nil_inv
  obtain rfl := r1.int_inv
  obtain ⟨b, ws, rfl, h2, r2⟩ := r2.tup_inv
  obtain rfl := r2.ints_inv
  exact ⟨a, b, rfl, h, h2⟩
theorem PTV.mono {K : PySem.W.Frag} {H H' : Hp} {v : V} {p : Int × List Int} (h : PTV K H v p) (e : Ex H H') : PTV K H' v p := by
  obtain ⟨a, b, rfl, h, h2⟩ := h
  exact ⟨a, b, rfl, ex_t e h, ex_t e h2⟩
theorem ptv_zip {K : PySem.W.Frag} {H : Hp} : ∀ {vs : List V} {ps : List (Int × List Int)}, Reps K H vs (ps.map pD) → ∃ zs : List (V × (Int × List Int)), zs.map (·.1) = vs ∧ zs.map (·.2) = ps ∧ ∀ z ∈ zs, Rep K H z.1 (pD z.2)
  | [], [], _ => ⟨[], rfl, rfl, fun z hz => by simp at hz⟩
  | v :: vs, p :: ps, h => by
    obtain ⟨r1, r2⟩ := Reps.uncons (show Reps K H (v :: vs) (pD p :: ps.map pD) from h)
    obtain ⟨zs, e1, e2, e3⟩ := ptv_zip r2
    refine ⟨(v, p) :: zs, by simp [e1], by simp [e2], fun z hz => ?_⟩
    rcases List.mem_cons.mp hz with rfl | hz
    · exact r1
    · exact e3 z hz
  | [], p :: ps, h => by have := h.length; simp at this
  | v :: vs, [], h => by have := h.length; simp at this
theorem reps_zs {K : PySem.W.Frag} {H : Hp} : ∀ {zs : List (V × (Int × List Int))}, (∀ z ∈ zs, Rep K H z.1 (pD z.2)) → Reps K H (zs.map (·.1)) ((zs.map (·.2)).map pD)
  | [], _ => .nil
  | z :: zs, h => Reps.cons (h z List.mem_cons_self) (reps_zs fun y hy => h y (List.mem_cons_of_mem _ hy))
theorem cf_sortP {K : PySem.W.Frag} : CaF K (rSortedPT K) dSortP := by
  intro J hJ m σ ρ H0 H vx x Po Q I rx q k
  obtain ⟨ps, e, q⟩ := q
  subst e
  obtain ⟨a, ws, rfl, h, r⟩ := rx.lst_inv I.sub
  obtain ⟨zs, rfl, rfl, e3⟩ := ptv_zip r
  refine ⟨a, zs, rfl, SqL.of h, fun z hz => PTV.mono (ptv_of (e3 z hz)) I.sub, fun zs' p h1 h2 h3 hp => ?_⟩
  obtain ⟨I2, f⟩ := I.fresh hJ hp (o := .lst _) (d := .lst _) (reps_zs (K := K) (H := H0) fun z hz => e3 z (h3 z hz))
  exact k _ _ _ (q _ h1 h2) I2 f
theorem ef_sortP (hu : X.A.units + 67 < cLine) (hm : X.mg "sorted" = none) (ha : PE X e (lM L A)) (hK : L.K = X.K := by rfl) (hg : Gl X "sorted" := by rfl)
    (h1 : starEach (e :: []) X.env = (false, eval e X.env) :: starEach [] X.env := by rfl) (hpl : (backTo pos (starEach [] X.env)).any (·.1) = false := by rfl) : PE X (.Call (.Name "sorted" p) [e] [] pos) (lF L (eUn dSortP A)) :=
  ef_b1 (cr_sortedPT hu) (by rw [← hK]; exact cf_sortP) hm (by decide +kernel) ha hg (by decide) (by decide) h1 hpl
/-- the module's names -/
theorem ed_gf {f : Addr} (hm : X.mg x = some (.ref f)) (hg : Gl X x := by rfl) (hd : (x == ("__debug__" : Str)) = false := by decide) : PE X (.Name x p) (lE L (eC (.glb f))) :=
  ed_c (v := .ref f) (pe_glob hg hm (show RelV (.ref f) (.ref f) from rfl) hd) fun _ _ => .glb .nil
theorem ed_gi {i : Int} (hm : ∃ t, X.mg x = some (.int i t)) (hg : Gl X x := by rfl) (hd : (x == ("__debug__" : Str)) = false := by decide) : PE X (.Name x p) (lE L (eC (.int i))) :=
  ed_c (v := .int i) (pe_glob hg hm.choose_spec (show RelV (.int i) (.int i hm.choose) from ⟨_, rfl⟩) hd) fun _ _ => .int
/-- t = e, t a tuple of names (or one) -/
def sAsg (A : DE) (G : DG) : DS := fun ρ P => A ρ (fun d ρ1 => G d ρ1 fun ρ2 => P.nx ρ2) P.xe
theorem sd_asg {g : TG} {G : DG} {vs : List Nat} {tg : Expr} (he : PE X e (lE L A)) (hg : PG X tg g) (gd : GD L.K L.J vs g G) (hs : swapsWithSole [tg] e pos.line X.env = pure false := by rfl) (hw : swappedStores [tg] e X.env = pure none := by rfl)
    (h1 : (assignEach [tg] X.env).map (·.2) = [assign tg X.env] := by rfl) : PS X (.Assign [tg] e pos) (lS L (sAsg A G)) :=
  PS.weak (ps_asg he hg hs hw h1) fun Dn σ H ⟨m, H0, ρ, P, I, q, k⟩ => ⟨m, H0, ρ, _, _, I, q, fun d ρ1 v H1 H1' q1 ex1 I1 r1 => gd I1 r1 q1 fun ρ' σ' p' I' _ => k.nx _ _ _ _ p' ex1 I', k.xw σ⟩
end
end DV
namespace HT
open PySem PySem.Spec PyProof.Rows
section
variable {prog : Program} {w : World} {A : Around} {E : Value → Shared → Prop} {s : Shared}
theorem pick_back (xs : Array Value) (n : Nat) (hn : xs.size = n + 1) : ((List.range n).filterMap fun (m : Nat) => xs[((n : Int) + (m : Int) * (-1)).toNat]?).toArray = (xs.toList.drop 1).reverse.toArray := by
  congr 1
  have e : ∀ l : List Nat, (∀ m ∈ l, m ≤ n) → (l.filterMap fun (m : Nat) => xs[((n : Int) + (m : Int) * (-1)).toNat]?) = l.filterMap fun m => xs.toList[n - m]? := fun l hl => by
    induction l with
    | nil => rfl
    | cons m l ih =>
      have hm := hl m List.mem_cons_self
      have : ((n : Int) + (m : Int) * (-1)).toNat = n - m := by omega
      rw [List.filterMap_cons, List.filterMap_cons, ih fun x hx => hl x (List.mem_cons_of_mem _ hx), this, Array.getElem?_toList]
  rw [e _ fun m hm => Nat.le_of_lt (List.mem_range.mp hm)]
  have hl : xs.toList.length = n + 1 := by rw [Array.length_toList]; exact hn
  generalize xs.toList = l at hl
  refine List.ext_getElem? fun i => ?_
  have e2 : ((List.range n).filterMap fun m => l[n - m]?) = (List.range n).map fun m => l.getD (n - m) .none := by
    have : ∀ q : List Nat, (∀ m ∈ q, m < n) → (q.filterMap fun m => l[n - m]?) = q.map fun m => l.getD (n - m) .none := fun q hq => by
      induction q with
      | nil => rfl
      | cons m q ih =>
        have hm := hq m List.mem_cons_self
        have h1 : l[n - m]? = some (l[n - m]'(by omega)) := List.getElem?_eq_getElem (by omega)
        rw [List.filterMap_cons, h1, List.map_cons, ih fun x hx => hq x (List.mem_cons_of_mem _ hx), List.getD_eq_getElem?_getD, h1]; rfl
    exact this _ fun m hm => List.mem_range.mp hm
  rw [e2, List.getElem?_map]
  by_cases c : i < n
  · rw [List.getElem?_range c, List.getElem?_reverse (by rw [List.length_drop]; omega), List.getElem?_drop, List.length_drop, hl]
    have e3 : 1 + (n + 1 - 1 - 1 - i) = n - i := by omega
    rw [e3]
    have h1 : l[n - i]? = some (l[n - i]'(by omega)) := List.getElem?_eq_getElem (by omega)
    rw [h1, Option.map_some, List.getD_eq_getElem?_getD, h1]; rfl
  · rw [List.getElem?_eq_none (by rw [List.length_range]; omega), List.getElem?_eq_none (by rw [List.length_reverse, List.length_drop]; omega)]; rfl
theorem sliceApplied_back {sl : Addr} {vl vu vs : Value} {n k : Nat} {Q : Int × Int × Nat → Shared → Prop} (hs : s.heap.IsSliceOf sl vl vu vs) (pl : IsPart vl none) (pu : IsPart vu (some 0)) (ps : IsPart vs (some (-1))) (hn : k = n + 1)
    (h : Q (((n : Nat) : Int), (-1 : Int), n) s) : wpAny (model prog w) A (Builtin.Slice.sliceApplied (.ref sl) (pure ((k : Nat) : Int))) Q E s := by
  obtain ⟨os, hos, hcs, hds⟩ := id hs
  unfold Builtin.Slice.sliceApplied Builtin.Slice.sliceFields
  refine wpAny_bind (wpAny_bind (wpAny_field hos hds (x := vl) rfl (wpAny_bind (wpAny_field hos hds (x := vu) rfl (wpAny_bind (wpAny_field hos hds (x := vs) rfl (wpAny_pure ?_)))))))
  refine wpAny_bind (slicePart_ ps ?_)
  show wpAny _ _ (if ((-1 : Int) == 0) = true then _ else _) _ _ s
  rw [if_neg (by decide)]
  refine wpAny_bind (slicePart_ pl (wpAny_bind (slicePart_ pu (wpAny_bind (wpAny_pure ?_)))))
  show wpAny _ _ (match Builtin.Slice.sliceAdjust none (some 0) (-1) ((k : Nat) : Int) with | (lo, hi) => pure (lo, (-1 : Int), Builtin.Slice.slicePlaces lo hi (-1))) _ _ s
  have e1 : Builtin.Slice.sliceAdjust none (some 0) (-1) ((k : Nat) : Int) = ((n : Int), (0 : Int)) := by
    rw [hn]
    unfold Builtin.Slice.sliceAdjust
    refine Prod.ext ?_ ?_
    · show (((n + 1 : Nat) : Int) - 1) = n
      omega
    · show (if (0 : Int) < 0 then max (0 + ((n + 1 : Nat) : Int)) (-1) else min 0 (((n + 1 : Nat) : Int) - 1)) = 0
      rw [if_neg (by decide)]
      omega
  rw [e1]
  show wpAny _ _ (pure (((n : Nat) : Int), (-1 : Int), Builtin.Slice.slicePlaces (n : Int) 0 (-1))) _ _ s
  have e2 : Builtin.Slice.slicePlaces (n : Int) 0 (-1) = n := by
    unfold Builtin.Slice.slicePlaces
    have h1 : ¬ ((-1 : Int) > 0) := by omega
    rw [if_neg h1]
    by_cases c : (n : Int) > 0
    · rw [if_pos c]
      have : (- (-1 : Int)) = 1 := by omega
      rw [this, Int.ediv_one]; omega
    · rw [if_neg c]; omega
  rw [e2]
  exact wpAny_pure h
theorem getItem_tuple_back {t sl : Addr} {items : Array Value} {vl vu vs : Value} {Q : Value → Shared → Prop} (ht : IsTup s.heap t items) (hs : s.heap.IsSliceOf sl vl vu vs) (pl : IsPart vl none) (pu : IsPart vu (some 0)) (ps : IsPart vs (some (-1))) (hn : 0 < items.size)
    (h : Q (.ref s.heap.objs.size) { s with heap := s.heap.push { cls := .type "tuple", data := .seq (items.toList.drop 1).reverse.toArray } })
    (hsz : items.size ≤ sizeLine) : wpAny (model prog w) A (getItem (.ref t) (.ref sl)) Q E s := by
  obtain ⟨n, hn⟩ : ∃ n, items.size = n + 1 := ⟨items.size - 1, by omega⟩
  have htake : sizeOk (.seq (items.toList.drop 1).reverse.toArray) := by
    show (items.toList.drop 1).reverse.toArray.size ≤ sizeLine
    rw [List.size_toArray, List.length_reverse, List.length_drop, Array.length_toList]
    omega
  obtain ⟨os, hos, hcs, hds⟩ := id hs
  have hTs : s.TypeIs (.ref sl) "slice" := ⟨os, hos, hcs⟩
  unfold getItem
  try with_reducible refine wpAny_holding ?_
  first | refine wpAny_bind (wpAny_pure ?_) | skip
  refine wpAny_bind (wpAny_sequenceKey ht.typeIs (by decide) ?_)
  refine wpAny_bind (wpAny_callSpecial?_slot (name := Str.ofString "__getitem__") ht.typeIs PyProof.Rows.slot_tuple_getitem
    (wpAny_call_entry PyProof.Rows.slot_tuple_getitem ht.typeIs entry_tuple_getitem ?_ (args_tuple_getitem _ _)))
  show wpAny _ _ (Builtin.Tuple.tupleItemsOf (.ref t) >>= _) _ _ s
  refine wpAny_bind (tupleItemsOf_ ht ?_)
  refine wpAny_bind (wpAny_typeOf hTs ?_)
  rw [if_pos (by decide)]
  refine wpAny_bind (sliceApplied_back hs pl pu ps hn ?_)
  have hno : ¬ ((((n : Nat) : Int) == 0 && (-1 : Int) == 1 && n == items.size) = true) := by
    intro q
    rw [Bool.and_eq_true, Bool.and_eq_true] at q
    exact absurd q.1.2 (by decide)
  show wpAny _ _ (if (((n : Nat) : Int) == 0 && (-1 : Int) == 1 && n == items.size) = true then _ else _) _ _ s
  rw [if_neg hno, pick_back items n hn]
  first
    | exact wpAny_bind (m := Builtin.Tuple.tupleExact _) (wpAny_newObj_type (wpAny_pure ⟨_, rfl, wpAny_pure h⟩) htake)
    | exact wpAny_bind (m := Builtin.Tuple.tupleExact _) (wpAny_newObj_type (wpAny_bind (wpAny_pure (wpAny_pure ⟨_, rfl, wpAny_pure h⟩))) htake)
    | exact wpAny_bind (wpAny_bind (m := Builtin.Tuple.tupleExact _) (wpAny_newObj_type (wpAny_pure (wpAny_pure ⟨_, rfl, wpAny_pure h⟩)) htake))
    | exact wpAny_bind (wpAny_bind (m := Builtin.Tuple.tupleExact _) (wpAny_newObj_type (wpAny_pure ⟨_, rfl, wpAny_pure h⟩) htake))
end
end HT
namespace L2
open PySem PySem.Spec PyProof.Rows
section
variable {X : Cx}
def tBackT (K : PySem.W.Frag) (te : TE) : TE := fun σ H Q => te σ H fun x H1 => ∃ a xs, x = .ref a ∧ SqT K H1 a xs ∧ xs ≠ [] ∧ ∀ p, H1 p = none → Q (.ref p) (upd H1 p (.tup (xs.drop 1).reverse))
theorem pe_backT {e : Expr} {te : TE} {k k0 : Nat} {p0 p1 p2 p3 pos : Pos} (he : PE X e te) : PE X (.Subscript e (.Slice none (some (.Constant (.int 0) k0 p0)) (some (.UnaryOp .USub (.Constant (.int 1) k p1) p2)) p3) pos) (tBackT X.K te) := by
  refine ⟨fun pins s σ H Q I h => ?_⟩
  refine Subscript_ (thn (he.run pins s σ H _ I h) fun v s1 ⟨x, H1, I1, r1, q1⟩ => ?_)
  obtain ⟨a, xs, ex, hx, hne, q⟩ := q1
  subst ex
  cases r1
  have hst : PO X (some (.UnaryOp .USub (.Constant (.int 1) k p1) p2)) (tPart (tUn (rU fun i => .int (-i)) (tC (.int 1)))) := po_some (pe_un un_neg pe_int)
  have hhi : PO X (some (.Constant (.int 0) k0 p0)) (tPart (tC (.int 0))) := po_some pe_int
  refine wpAny_Slice (thn (po_none.run pins s1 σ H1 (fun o H2 => o = none ∧ H2 = H1) I1 ⟨rfl, rfl⟩) fun vl s2 ⟨l, H2, I2, pl, el, e2⟩ => ?_)
  subst el e2
  refine thn (hhi.run pins s2 σ H2 (fun o H3 => o = some 0 ∧ H3 = H2) I2 ⟨0, rfl, rfl, rfl⟩) fun vu s3 ⟨u, H3, I3, pu, eu, e3⟩ => ?_
  subst eu e3
  refine thn (hst.run pins s3 σ H3 (fun o H4 => o = some (-1) ∧ H4 = H3) I3 ⟨1, rfl, -1, rfl, rfl, rfl⟩) fun vs s4 ⟨o, H4, I4, ps, eo, e4⟩ => ?_
  subst eo e4
  have I5 : Inv X pins σ H4 { s4 with heap := s4.heap.push { cls := .type "slice", data := .fields #[vl, vu, vs] } } := I4.kept (t' := s4.toks) fun b ob q => Heap.get?_push_of_some _ q
  obtain ⟨its, r, ht, hz⟩ := I5.tuple hx
  have hlen := r.length
  have hp : 0 < xs.length := by cases xs with
    | nil => exact absurd rfl hne
    | cons _ _ => simp
  show wpAny (model X.prog X.w) X.A (subscriptTail e (.Slice none (some (.Constant (.int 0) k0 p0)) (some (.UnaryOp .USub (.Constant (.int 1) k p1) p2)) p3) (.ref a) (.ref s4.heap.objs.size)) (EP X pins σ Q) X.xe { s4 with heap := s4.heap.push { cls := .type "slice", data := .fields #[vl, vu, vs] } }
  refine tail_any (ops := [.ref a, .ref s4.heap.objs.size]) ht.typeIs (PyProof.Rows.slot_tuple_getitem.lookup) ?_ (by with_unfolding_all rfl)
  refine HT.getItem_tuple_back ht (Heap.IsSliceOf.new _ vl vu vs) pl pu ps (by rw [List.size_toArray]; omega) ?_ (by rw [List.size_toArray]; omega)
  refine ⟨.ref _, _, I5.laid (t' := s4.toks) (o := .tup (xs.drop 1).reverse) (fun b ob q => Heap.get?_push_of_some _ q) (Nat.le_refl _) ?_, rfl, q _ (I5.hok.fresh (Nat.le_refl _))⟩
  exact ⟨by rw [List.length_reverse, List.length_drop]; omega, _, (r.drop 1).reverse, IsTup.new _ _⟩
end
end L2
namespace DV
open PySem L2
section
variable {X : Cx} {L : Li} {a : Expr} {A : DE} {pos p2 : Pos}
def dBack : D → (D → Prop) → Prop
  | .tup l, P => l ≠ [] ∧ P (.tup (l.drop 1).reverse)
  | _, _ => False
theorem ed_back {k k0 : Nat} {p0 p1 p3 : Pos} (ha : PE X a (lE L A)) (hK : L.K = X.K := by rfl) : PE X (.Subscript a (.Slice none (some (.Constant (.int 0) k0 p0)) (some (.UnaryOp .USub (.Constant (.int 1) k p1) p2)) p3) pos) (lE L (eUn dBack A)) :=
  PE.weak (pe_backT ha) fun σ H Q ⟨m, H0, ρ, P, R, I, q, k, x⟩ => ⟨m, H0, ρ, _, R, I, q, fun dx ρ1 vx H1 H1' q1 ex1 I1 r1 => by
    unfold dBack at q1
    split at q1
    · obtain ⟨a, ws, rfl, h, r⟩ := r1.tup_inv
      refine ⟨a, ws, rfl, by rw [← hK]; exact ex_t I1.sub h, fun e => ?_, fun p hp => ?_⟩
      · subst e; exact q1.1 (r.nil_inv')
      · exact k _ _ _ _ _ q1.2 (ex1.trans (Ex.new (I1.free hp))) (I1.alloc L.ok hp) (.tup (SqT.of upd_same) (((r.drop 1).reverse).mono (Ex.new (I1.free hp))))
    · exact q1.elim, x⟩
end
end DV

set_option Elab.async false
set_option linter.all false
set_option maxRecDepth 100000
set_option maxHeartbeats 4000000
/-! DV: comprehensions over an own list; defs that give a fresh object; defs by name. -/
namespace DV
open PySem L2
section
variable {X : Cx} {L : Li} {e a b tg elt iter : Expr} {A B : DE} {T U : DT} {S1 S2 : DS} {pos p spos : Pos} {st : Stmt} {rest sts : List Stmt} {As : DA} {Ii : DI} {scope : Scope} {own : List (Str × Nat)} {ifs es : List Expr} {g : TG} {G : DG} {i j : Nat} {x y : Str} {py : Pos}
/-- our own object is taken out of its slot -/
theorem In.out {K : PySem.W.Frag} {J : Hp → Prop} {m : Fm} {σ : St} {ρ : En} {H0 H : Hp} {d : D} (I : In K J m σ ρ H0 H) (h : ρ[j]? = some (.o d)) : ∃ a, σ[j]? = some (some (.ref a)) ∧ In K J m σ (ρ.set j .e) H0 H ∧ Fresh K m σ (ρ.set j .e) H0 H a d := by
  obtain ⟨a, o, e1, n, q, r, z⟩ := I.sl j _ h
  refine ⟨a, e1, I.set_e, n, ⟨o, q, r⟩, z, fun i d1 hi w => ?_, fun g hg w => (I.gh g hg).2.2.2.1 j d h (by rw [e1, w])⟩
  rcases get_set hi with ⟨rfl, _, q⟩ | ⟨c, hi⟩
  · cases q
  · exact c (I.inj j i d d1 h hi (by rw [e1, w]))
def iK (ds : List D) : DI := fun ρ P _ => P ds ρ
/-- a comprehension over our own list in slot j; ix: how its items come -/
def eLcO (j : Nat) (ix : List D → List D) (vs : List Nat) (G : DG) (T : DT) (A : DE) : DE := fun ρ P R => ∃ l, ρ[j]? = some (.o (.lst l)) ∧ j ∉ vs ∧ quiet (ρ.set j .e) vs ∧
  lcD vs G T A (ix l) [] (blank (ρ.set j .e) vs) (fun acc ρ2 => P (.lst acc) ((back (ρ.set j .e) ρ2 vs).set j (.o (.lst l)))) noR
theorem set_same {α : Type} {l : List α} {i : Nat} {z : α} (h : l[i]? = some z) : l.set i z = l := by
  apply List.ext_getElem? ; intro k
  by_cases c : i = k
  · subst c
    rw [List.getElem?_set_self (List.getElem?_eq_some_iff.mp h).1, h]
  · rw [List.getElem?_set_ne c]
theorem l_lcO {vs : List Nat} (gd : GD L.K L.J vs g G) {m : Fm} {σ : St} {ρ : En} {H0 H : Hp} {Q : VK} {l : List D} {ds : List D} {Jt : Addr → It} {P : D → En → Prop}
    (dw : ∀ (a : Addr) ws (m : Fm), (a, HO.lst ws) ∈ m.G → Reps L.K H0 ws l → DW L.K L.J m.G (Jt a) ds H0) (I : In L.K L.J m σ ρ H0 H) (h : ρ[j]? = some (.o (.lst l))) (qt : quiet (ρ.set j .e) vs)
    (q : lcD vs G T A ds [] (blank (ρ.set j .e) vs) (fun acc ρ2 => P (.lst acc) ((back (ρ.set j .e) ρ2 vs).set j (.o (.lst l)))) noR)
    (k : ∀ d ρ' a H0' H', P d ρ' → Ex H0 H0' → In L.K L.J m σ ρ' H0' H' → Fresh L.K m σ ρ' H0' H' a d → Q (.ref a) H') :
    ∃ a ws, σ[j]? = some (some (.ref a)) ∧ H a = some (.lst ws) ∧ LcGo (Jt a) H g (lT L.blk T) (lE L.blk A) vs σ Q := by
  obtain ⟨a, e1, I1, f1⟩ := I.out h
  obtain ⟨o, ro, Ig⟩ := f1.hold I1
  obtain ⟨o', ho', _⟩ := f1.ob
  have hgh := f1.gh
  cases o with
  | lst ws =>
    have ha : H a = some (.lst ws) := (Ig.gh (a, .lst ws) List.mem_cons_self).2.1
    refine ⟨a, ws, e1, ha, ?_⟩
    refine l_lcC (P := fun d ρ' => P d (ρ'.set j (.o (.lst l)))) gd Ig (dw a ws _ List.mem_cons_self ro) qt q fun d ρ' a2 H2 H2' pd ex2 I2 f2 => ?_
    obtain ⟨I3, f3⟩ := Fresh.held ro ex2 I2 hgh
    have hne : a ≠ a2 := fun z => f2.gh (a, .lst ws) List.mem_cons_self z
    have I4 := I3.set_o (i := j) f3
    rw [set_same e1] at I4
    refine k d _ a2 H2 H2' pd ex2 I4 ⟨f2.n0, f2.ob, f2.he, fun i d1 hi w => ?_, fun g hg => f2.gh g (List.mem_cons_of_mem _ hg)⟩
    rcases get_set hi with ⟨rfl, _, q⟩ | ⟨c, hi⟩
    · rw [e1] at w; injection w with w; injection w with w; injection w with w; exact hne w
    · exact f2.ne i d1 hi w
  | _ => exact (show False from ro).elim
theorem l_lcE {vs : List Nat} {K : PySem.W.Frag} (hK : L.K = K) (gd : GD L.K L.J vs g G) {σ : St} {H : Hp} {Q : VK} (h : lF L (eLcO j (enD 0) vs G T A) σ H Q) : tLc (iEnum K (tCons (tVar j) tNil)) g (lT L.blk T) (lE L.blk A) vs σ H Q := by
  obtain ⟨m, H0, ρ, P, R, I, ⟨l, hj, hv, qt, q⟩, k, x⟩ := h
  obtain ⟨a, ws, e1, ha, go⟩ := l_lcO (Jt := Ite K) gd (fun a ws m hm r => by
    subst hK
    refine ⟨fun H => SqL L.K H a ws, YPair (fun i => some (.int (i : Nat))) (fun i => ws[i]?), by rw [enD_length, ← r.length]; exact walk_enum, fun hg ex I => SqL.of (I.gh _ (hg _ hm)).2.1, fun {m σ ρ i H0' H H2 x} _ hi ex I y => ?_⟩
    obtain ⟨t, x1, y1, rfl, ht, rfl, e1, e2⟩ := y
    have e1 := Option.some.inj e1
    subst e1
    obtain ⟨d, e3, rd⟩ := r.get' e2
    have nx : Ex H0' (upd H0' t (.tup [.int (i : Nat), y1])) := Ex.new (I.free ht)
    refine ⟨upd H0' t (.tup [.int (i : Nat), y1]), .tup [.int (i : Nat), d], nx, I.alloc L.ok ht, ?_, .tup (SqT.of upd_same) (.int ((rd.mono ex).mono nx))⟩
    rw [enD_get, e3]; simp) I hj qt q k
  exact ⟨_, e1, a, ws, rfl, SqL.of ha, go⟩
theorem l_lcL {vs : List Nat} {K : PySem.W.Frag} (hK : L.K = K) (gd : GD L.K L.J vs g G) {σ : St} {H : Hp} {Q : VK} (h : lF L (eLcO j (fun l => l) vs G T A) σ H Q) : tLc (iList K (tVar j)) g (lT L.blk T) (lE L.blk A) vs σ H Q := by
  obtain ⟨m, H0, ρ, P, R, I, ⟨l, hj, hv, qt, q⟩, k, x⟩ := h
  obtain ⟨a, ws, e1, ha, go⟩ := l_lcO (Jt := Itl K) gd (fun a ws m hm r => by
    subst hK
    refine ⟨fun H => SqL L.K H a ws, YAt ws, by rw [← r.length]; exact walk_list, fun hg ex I => SqL.of (I.gh _ (hg _ hm)).2.1, fun {m σ ρ i H0' H H2 x} _ hi ex I y => ?_⟩
    obtain ⟨e, y⟩ := y
    subst e
    obtain ⟨d, e2, rd⟩ := r.get' y
    exact ⟨H0', d, Ex.refl _, I, e2, rd.mono ex⟩) I hj qt q k
  exact ⟨_, e1, a, rfl, ⟨ws, SqL.of ha⟩, go⟩
theorem ef_lcE {elts : List Expr} {kk : Nat} {tpos : Pos} (hm : X.mg "enumerate" = none) (hc : X.calm = true) (hN : X.N.Nodup) (hj : PE X a (tVar j)) (ok : BlkOk X.N X.env.scope scope own) (gd : GD L.K L.J (own.map (·.2)) g G)
    (hg : ∀ (s : Shared) (H : Hp) (C : Addr) (cl : List (Str × Addr)) (fp : List Addr), PG (X.blk s H scope (compEnvC scope cl C X.env) fp) (.Tuple elts kk tpos) g)
    (ht : ∀ (s : Shared) (H : Hp) (C : Addr) (cl : List (Str × Addr)) (fp : List Addr), PTs (X.blk s H scope (compEnvC scope cl C X.env) fp) ifs (lT L.blk T))
    (he : ∀ (s : Shared) (H : Hp) (C : Addr) (cl : List (Str × Addr)) (fp : List Addr), PE (X.blk s H scope (compEnvC scope cl C X.env) fp) elt (lE L.blk A)) (hK : L.K = X.K := by rfl) (hgl : Gl X "enumerate" := by rfl) (hst : starEach [a] X.env = [(false, eval a X.env)] := by rfl) (h1 : starEach (a :: []) X.env = (false, eval a X.env) :: starEach [] X.env := by rfl)
    (hs : ∀ x, foldedSetIterable (.Call (.Name "enumerate" p) [a] [] pos) X.env x = pure x := by intro _; rfl) :
    PE X (.ListComp elt [⟨.Tuple elts kk tpos, .Call (.Name "enumerate" p) [a] [] pos, ifs, 0⟩] scope spos) (lF L (eLcO j (enD 0) (own.map (·.2)) G T A)) :=
  PE.weak (pe_lc hc hN (pi_enum hgl hm (pa_cons hj pa_nil h1) hst) ok hg ht he hs) fun _ _ _ => l_lcE hK gd
theorem ef_lcL (hc : X.calm = true) (hN : X.N.Nodup) (hj : PE X a (tVar j)) (ok : BlkOk X.N X.env.scope scope own) (gd : GD L.K L.J (own.map (·.2)) g G)
    (hg : ∀ (s : Shared) (H : Hp) (C : Addr) (cl : List (Str × Addr)) (fp : List Addr), PG (X.blk s H scope (compEnvC scope cl C X.env) fp) tg g)
    (ht : ∀ (s : Shared) (H : Hp) (C : Addr) (cl : List (Str × Addr)) (fp : List Addr), PTs (X.blk s H scope (compEnvC scope cl C X.env) fp) ifs (lT L.blk T))
    (he : ∀ (s : Shared) (H : Hp) (C : Addr) (cl : List (Str × Addr)) (fp : List Addr), PE (X.blk s H scope (compEnvC scope cl C X.env) fp) elt (lE L.blk A)) (hK : L.K = X.K := by rfl)
    (hs : ∀ x, foldedSetIterable a X.env x = pure x := by intro _; rfl) :
    PE X (.ListComp elt [⟨tg, a, ifs, 0⟩] scope spos) (lF L (eLcO j (fun l => l) (own.map (·.2)) G T A)) :=
  PE.weak (pe_lc hc hN (pi_list hj) ok hg ht he hs) fun _ _ _ => l_lcL hK gd
/-- our own object in slot i becomes shared, if it is not yet -/
def sFq (i : Nat) (S : DS) : DS := fun ρ P => (∃ d, ρ[i]? = some (.o d) ∧ S (ρ.set i (.s d)) P) ∨ ((∃ d, ρ[i]? = some (.s d)) ∧ S ρ P)
theorem l_fq {i : Nat} {Dn : Ends} {σ : St} {H : Hp} (h : lS L (sFq i S1) Dn σ H) : lS L S1 Dn σ H := by
  obtain ⟨m, H0, ρ, P, I, ⟨d, e, q⟩ | ⟨_, q⟩, k⟩ := h
  · obtain ⟨H0', ex, I'⟩ := I.freeze e
    exact ⟨m, H0', _, P, I', q, k.mono ex⟩
  · exact ⟨m, H0, ρ, P, I, q, k⟩
theorem sd_fq {i : Nat} (h : PS X st (lS L S1)) : PS X st (lS L (sFq i S1)) := PS.weak h fun _ _ _ => l_fq
theorem sds_fq {i : Nat} (h : PSs X sts (lS L S1)) : PSs X sts (lS L (sFq i S1)) := PSs.weak h fun _ _ _ => l_fq
end
/-! ### a def that gives a fresh object -/
def spF (K : PySem.W.Frag) (J : Hp → Prop) (sp : DSp) : Sp := fun vs H Q E => ∃ (H0 : Hp) (ds : List D) (P : D → D → Prop) (R : DX → D → Prop), Ex H0 H ∧ J H ∧ Reps K H0 vs ds ∧ sp ds P R ∧
  (∀ d d0 a H0' H', P d d0 → Stp J none H0 H H0' H' → H a = none → OwnAt K H0' H' a d → Q (.ref a) H') ∧ (∀ x d0 c dd H0' H', R x d0 → Stp J none H0 H H0' H' → XRep K H0' H' c dd x → E c dd H')
section
variable {P : Program} {w : World} {K : PySem.W.Frag} {J : Hp → Prop} (ok : JOk J) {mg : Str → Option Value} {base : Heap} {qual : Str} {st : Stmt} {f : Addr} {fd : FuncData} {N ps : List Str} {k : Nat} {sp : DSp} {x : Str}
theorem okF {e : Expr} {pos : Pos} (F : Fun K x qual st f fd) (S : FnScope N ps (defScope st)) (len : ∀ ds P R, sp ds P R → ds.length = ps.length) (hb : defBody st = [.Return (some e) pos])
    (hbody : ∀ (cdv : Value) (A : Around) (outer : List Env) (s : Shared) (H : Hp) (E : XK), Room k (A.deeper (PyProof.Rows.envOfC qual (defScope st) s.heap.objs.size f cdv)) →
      ∃ B, PE (cxOf (L2.CX P w) P w K mg base N qual (defScope st) f cdv A outer s H E) e (lF (liF K J ok E) B) ∧ ∀ ds (Po : D → D → Prop) (R : DX → D → Prop), sp ds Po R → B (en0 N ds) (fun d _ => Po d .non) (fun y _ => R y .non)) :
    FnOk P w K mg base (L2.CX P w) (k + 1) f fd ps (spF K J sp) := by
  refine F.okX S (fun vs H Q E ⟨H0, ds, Po, R, e, j, r, q, k1, k2⟩ => r.length.trans (len _ _ _ q)) (fun cdv A outer s H vs Q E hr ⟨H0, ds, Po, R, ex, j, r, q, k1, k2⟩ => ?_)
  obtain ⟨B, hB, hb2⟩ := hbody cdv A outer s H E hr
  refine ⟨_, by rw [hb]; exact pss_one (ps_ret hB), ?_⟩
  refine ⟨{ He0 := H0, He := H, M := none }, H0, en0 N ds, _, _, in_start ex j r, hb2 ds Po R q, fun d ρ' a H0' H' p ex2 I f2 => ?_, fun y ρ' c dd H0' H' p I r => k2 y .non c dd H0' H' p I.st r⟩
  exact k1 d .non a H0' H' p I.st f2.he ⟨f2.n0, f2.ob⟩
end
/-! ### defs by name -/
structure HP (P : Program) (w : World) (K : PySem.W.Frag) (mg : Str → Option Value) (base : Heap) (k : Nat) (f : Addr) (ps : List Str) (sp : Sp) : Prop where
  ex : ∃ fd : FuncData, FnOk P w K mg base (L2.CX P w) k f fd ps sp ∧ Binds K fd ps [] ∧ PySem.W.keepIn K (.ref f) = true
section
variable {X : Cx} {L : Li} {e a b : Expr} {A B : DE} {pos p apos : Pos} {As : DA} {es : List Expr} {k : Nat} {f C : Addr} {ps : List Str} {sp : DSp} {x n : Str}
theorem eh_call (F : HP X.prog X.w X.K X.mg X.base k f ps (spP L.K L.J sp)) (hr : Room k X.A) (hm : X.mg x = some (.ref f)) (tk : Takes X L.W) (ha : PA X (e :: es) (lA L As))
    (hg : Gl X x := by rfl) (hdb : (x == ("__debug__" : Str)) = false := by decide) (he : starEach (e :: es) X.env = (false, eval e X.env) :: starEach es X.env := by rfl) (hpl : (backTo pos (starEach es X.env)).any (·.1) = false := by rfl) :
    PE X (.Call (.Name x p) (e :: es) [] pos) (lE L (eCall sp As)) := by
  obtain ⟨fd, F1, F2, F3⟩ := F.ex
  exact ed_call F1 hr hm F3 F2 tk ha hg hdb he hpl
theorem eh_callF (F : HP X.prog X.w X.K X.mg X.base k f ps (spF L.K L.J sp)) (hr : Room k X.A) (hm : X.mg x = some (.ref f)) (tk : Takes X L.W) (ha : PA X (e :: es) (lA L As))
    (hg : Gl X x := by rfl) (hdb : (x == ("__debug__" : Str)) = false := by decide) (he : starEach (e :: es) X.env = (false, eval e X.env) :: starEach es X.env := by rfl) (hpl : (backTo pos (starEach es X.env)).any (·.1) = false := by rfl) :
    PE X (.Call (.Name x p) (e :: es) [] pos) (lF L (eCall sp As)) := by
  obtain ⟨fd, F1, F2, F3⟩ := F.ex
  exact PE.weak (pe_callSD (E := fun σ c d H => L.W c d σ H) F1 hr hg hm F3 F2 .nil (fun σ => passAt tk σ) ha hdb he hpl) fun σ H Q ⟨m, H0, ρ, P, R, I, q, k, x⟩ => ⟨m, H0, ρ, _, R, I, q, fun ds ρ1 vs H1 H1' q1 ex1 I1 r1 => by
    refine ⟨H1, ds, _, _, I1.sub, I1.j, by rw [List.append_nil]; exact r1, q1, fun d d0 a H0' H' pd S na ow => ?_, fun y d0 c dd H0' H' pd S r => x y ρ1 c dd H0' H' pd (I1.called S) r⟩
    refine k d ρ1 a H0' H' pd (ex1.trans S.sh) (I1.called S) ⟨ow.1, ow.2, I1.fresh_new na, I1.ne_new na, fun g hg => ne_of_none (I1.gh g hg).2.1 na⟩, x⟩
theorem eh_callO {j : Nat} (F : HP X.prog X.w X.K X.mg X.base k f ps (spO L.K L.J sp)) (hr : Room k X.A) (hm : X.mg x = some (.ref f)) (tk : Takes X L.W) (hj : PE X e (tVar j)) (ha : PA X es (lA L As))
    (hg : Gl X x := by rfl) (hdb : (x == ("__debug__" : Str)) = false := by decide) (he : starEach (e :: es) X.env = (false, eval e X.env) :: starEach es X.env := by rfl) (hpl : (backTo pos (starEach es X.env)).any (·.1) = false := by rfl) :
    PE X (.Call (.Name x p) (e :: es) [] pos) (lE L (fun ρ P R => (∃ d0, ρ[j]? = some (.o d0) ∨ ρ[j]? = some (.m d0)) ∧ eCallO sp j As ρ P R)) := by
  obtain ⟨fd, F1, F2, F3⟩ := F.ex
  exact ed_callO F1 hr hm F3 F2 tk hj ha hg hdb he hpl
theorem eh_make (M : Mk X.K C f) (F : HP X.prog X.w X.K X.mg X.base k f ps (spO L.K L.J sp)) (hr : Room (k + 1) X.A) (hm : X.mg x = some (.ref C)) (tk : Takes X L.W) (hW : WFlat L.W) (ha : PA X (e :: es) (lA L As))
    (hg : Gl X x := by rfl) (hdb : (x == ("__debug__" : Str)) = false := by decide) (he : starEach (e :: es) X.env = (false, eval e X.env) :: starEach es X.env := by rfl) (hpl : (backTo pos (starEach es X.env)).any (·.1) = false := by rfl) :
    PE X (.Call (.Name x p) (e :: es) [] pos) (lE L (eMake C sp As)) := by
  obtain ⟨fd, F1, F2, F3⟩ := F.ex
  exact ed_make M F1 hr hm F2 tk hW ha hg hdb he hpl
theorem eh_meth {pl : Sem Bool} {o : Expr} (c : Cls X.K C) (hm : Meth X.K C n f) (F : HP X.prog X.w X.K X.mg X.base k f ps (spP L.K L.J sp)) (hr : Room k X.A) (tk : Takes X L.W) (hW : WFlat L.W) (ho : PE X o (lE L A)) (ha : PA X (e :: es) (lA L As))
    (hst : starEach (e :: es) X.env = (false, eval e X.env) :: starEach es X.env := by rfl) (hpl : (backTo pos (starEach es X.env)).any (·.1) = false := by rfl)
    (ht : eval (.Call (.Attribute o n apos) (e :: es) [] pos) X.env = (do
      let ov ← eval o X.env
      standAt apos.atName
      let (f, first) ← holding [ov] (getMethod ov n pl)
      callWith pos f first (backTo pos (starEach (e :: es) X.env)) (backToKw pos (keywordEach [] X.env))) := by rfl) :
    PE X (.Call (.Attribute o n apos) (e :: es) [] pos) (lE L (eMeth C n sp A As)) := by
  obtain ⟨fd, F1, F2, F3⟩ := F.ex
  exact ed_meth c hm F1 hr F2 tk hW ho ha hst hpl ht
theorem eh_meth0 {pl : Sem Bool} {o : Expr} (c : Cls X.K C) (hm : Meth X.K C n f) (F : HP X.prog X.w X.K X.mg X.base k f ps (spP L.K L.J sp)) (hr : Room k X.A) (tk : Takes X L.W) (hW : WFlat L.W) (ho : PE X o (lE L A))
    (ht : eval (.Call (.Attribute o n apos) [] [] pos) X.env = (do
      let ov ← eval o X.env
      standAt apos.atName
      let (f, first) ← holding [ov] (getMethod ov n pl)
      callWith pos f first (backTo pos (starEach [] X.env)) (backToKw pos (keywordEach [] X.env))) := by rfl) :
    PE X (.Call (.Attribute o n apos) [] [] pos) (lE L (eMeth C n sp A aNil)) := by
  obtain ⟨fd, F1, F2, F3⟩ := F.ex
  exact ed_meth0 c hm F1 hr F2 tk hW ho ht
theorem HP.held {P : Program} {w : World} {K : PySem.W.Frag} {mg : Str → Option Value} {base : Heap} {J : Hp → Prop} (h : HP P w K mg base k f ps (spP K J sp)) : HeldD P w K mg base J k f sp := by
  obtain ⟨fd, F1, F2, F3⟩ := h.ex
  exact ⟨fd, ps, F1, F3, F2⟩
theorem HP.mono {P : Program} {w : World} {K : PySem.W.Frag} {mg : Str → Option Value} {base : Heap} {sp : Sp} {j k : Nat} (h : HP P w K mg base j f ps sp) (hk : j ≤ k) : HP P w K mg base k f ps sp := by
  obtain ⟨fd, F1, F2, F3⟩ := h.ex
  exact ⟨fd, F1.mono hk, F2, F3⟩
end
end DV

set_option Elab.async false
set_option linter.all false
set_option maxRecDepth 100000
set_option maxHeartbeats 4000000
/-! DV: short names for printed terms. -/
namespace DV
open PySem L2
abbrev dSub : D → D → (D → Prop) → Prop := dI (fun i j => .int (i - j)) fun _ _ => True
abbrev dFdiv : D → D → (D → Prop) → Prop := dI (fun i j => .int (i / j)) CDivW
abbrev dMod : D → D → (D → Prop) → Prop := dI (fun i j => .int (i % j)) fun _ j => 0 < j
abbrev dPow : D → D → (D → Prop) → Prop := dI (fun i j => .int (i ^ j.toNat)) CPow
abbrev dLt : D → D → (D → Prop) → Prop := dI (fun i j => .bl (decide (i < j))) fun _ _ => True
abbrev dLe : D → D → (D → Prop) → Prop := dI (fun i j => .bl (decide (i ≤ j))) fun _ _ => True
abbrev dGt : D → D → (D → Prop) → Prop := dI (fun i j => .bl (decide (j < i))) fun _ _ => True
abbrev dGe : D → D → (D → Prop) → Prop := dI (fun i j => .bl (decide (j ≤ i))) fun _ _ => True
def J1 : Hp → Prop := fun _ => True
theorem ok1 : JOk J1 := JOk.true
abbrev dIsiT (K : PySem.W.Frag) (us : List Value) : D → (D → Prop) → Prop := fun x P => (∀ C fs, x = .obj C fs → IsC K C) ∧ ∃ t b, tyD x = some t ∧ P (.bl b) ∧ PySem.W.kitAny K t us = some b
def eIx (A B : DE) : DE := fun ρ P R => A ρ (fun x ρ1 => (∃ d, x = d) ∧ B ρ1 (fun y ρ2 => dIx x y fun z => P z ρ2) R) R
def eCallO' (sp : DSp) (j : Nat) (As : DA) : DE := fun ρ P R => (∃ d0, ρ[j]? = some (.o d0) ∨ ρ[j]? = some (.m d0)) ∧ eCallO sp j As ρ P R
def eIndex (A B : DE) : DE := fun ρ P R => A ρ (fun x ρ1 => (∃ l, x = .lst l) ∧ B ρ1 (fun y ρ2 => dIndex x y fun z => P z ρ2) R) R
def eCallR (i : Nat) (T : List (Addr × DSp)) (As : DA) : DE := fun ρ P R => ∃ f sp, ρ[i]? = some (.s (.glb f)) ∧ (f, sp) ∈ T ∧ As ρ (fun ds ρ1 => sp ds (fun d _ => P d ρ1) (fun x _ => R x ρ1)) R
section
variable {X : Cx} {L : Li} {e a b : Expr} {A B : DE} {pos p apos : Pos} {As : DA} {es : List Expr} {k i : Nat} {f C : Addr} {ps : List Str} {sp : DSp} {x n : Str}
theorem eh_callR {T : List (Addr × DSp)} {k : Nat} (Ah : ∀ q ∈ T, HeldD X.prog X.w X.K X.mg X.base L.J k q.1 q.2) (hr : Room k X.A) (tk : Takes X L.W) (hW : WFlat L.W) (ha : PA X (e :: es) (lA L As)) (hN : X.N[i]? = some x := by rfl)
    (hv : Vis X.env.scope x := by first | exact Or.inl rfl | exact Or.inr (Or.inl rfl) | exact Or.inr (Or.inr rfl)) (hK : L.K = X.K := by rfl)
    (hdb : (x == ("__debug__" : Str)) = false := by decide) (hcd : (x == ("__classdict__" : Str)) = false := by decide)
    (he : starEach (e :: es) X.env = (false, eval e X.env) :: starEach es X.env := by rfl) (hpl : (backTo pos (starEach es X.env)).any (·.1) = false := by rfl) : PE X (.Call (.Name x p) (e :: es) [] pos) (lE L (eCallR i T As)) := by
  refine ⟨fun pins s σ H Q In' h => ?_⟩
  obtain ⟨m, H0, ρ, P, R, I, ⟨f, sp, ef, eS, q⟩, k, xw⟩ := h
  obtain ⟨fd, ps, F, hk, hb⟩ := (Ah (f, sp) eS).ex
  obtain ⟨v, ev, rv⟩ := I.sl i _ ef
  obtain rfl := rv.glb_inv
  refine (pe_callL (i := i) (f := f) (dvs := []) (E := fun c d H => ∀ σ, L.W c d σ H) F hr hN hv hk hb .nil (passes_call tk fun _ _ _ _ z => z _) ha hdb hcd he hpl).run pins s σ H Q In' ⟨ev, m, H0, ρ, _, R, I, q, fun ds ρ1 vs H1 H1' q1 ex1 I1 r1 => ?_, xw⟩
  refine ⟨H1, ds, _, _, I1.sub, I1.j, by rw [← hK, List.append_nil]; exact r1, q1, fun d d0 v H0' H' pd S r => k d ρ1 v H0' H' pd (ex1.trans S.sh) (I1.called S) (by rw [hK]; exact r), fun y d0 c dd H0' H' pd S r σ' => hW _ _ _ _ _ (xw y ρ1 c dd H0' H' pd (I1.called S) (by rw [hK]; exact r))⟩
end
end DV
namespace DV
open PySem L2
section
variable {X : Cx} {L : Li} {e a b tg : Expr} {A B : DE} {pos p p2 pos2 : Pos}
def dRng : D → (D → Prop) → Prop
  | .int n, P => -(2 ^ 62) ≤ n ∧ n ≤ 2 ^ 24 ∧ P (.lst (rgD 0 n.toNat))
  | _, _ => False
theorem reps_rgV {K : PySem.W.Frag} {H : Hp} {n : Int} : Reps K H (rgV 0 n) (rgD 0 n.toNat) := by
  unfold rgV rgD
  have : (n - 0).toNat = n.toNat := by omega
  rw [this]
  generalize List.range n.toNat = l
  induction l with
  | nil => exact .nil
  | cons x l ih => exact .int ih
theorem ef_listR (hc : X.calm = true) (hm : X.mg "list" = none) (hm2 : X.mg "range" = none) (ha : PE X a (lE L A)) (hg : Gl X "list" := by rfl) (hg2 : Gl X "range" := by rfl) (na2 : starEach [a] X.env = (false, eval a X.env) :: starEach [] X.env := by rfl)
    (na : starEach [.Call (.Name "range" p2) [a] [] pos2] X.env = (false, eval (.Call (.Name "range" p2) [a] [] pos2) X.env) :: starEach [] X.env := by rfl) :
    PE X (.Call (.Name "list" p) [.Call (.Name "range" p2) [a] [] pos2] [] pos) (lF L (eUn dRng A)) :=
  PE.weak (pe_listRg hc hg hm (prg_1 hg2 hm2 ha na2) na) fun σ H Q ⟨m, H0, ρ, P, R, I, q, k, x⟩ => ⟨m, H0, ρ, _, R, I, q, fun dx ρ1 vx H1 H1' q1 ex1 I1 r1 => by
    unfold dRng at q1
    split at q1
    · rename_i P0 n
      obtain ⟨b1, b2, q1⟩ := q1
      refine ⟨n, r1.int_inv, ⟨by omega, by omega, b1, by omega, by omega⟩, fun p hp => ?_⟩
      obtain ⟨I4, f⟩ := I1.fresh L.ok hp (o := .lst _) (d := .lst _) (reps_rgV (K := L.K))
      exact k _ _ _ _ _ q1 ex1 I4 f
    · exact q1.elim, x⟩
/-- what is walked is a list or a tuple -/
def iLT (A : DE) : DI := fun ρ P R => A ρ (fun d ρ' => ∃ ds, (d = .lst ds ∨ d = .tup ds) ∧ P ds ρ') R
def iListTup (K : PySem.W.Frag) (tl : TE) : TI := fun σ H R => tl σ H fun x H1 => ∃ a, x = .ref a ∧ (((∃ xs, SqL K H1 a xs) ∧ R (Itl K a) H1) ∨ ((∃ xs, SqT K H1 a xs) ∧ R (Itt K a) H1))
theorem pi_lt {tl : TE} (hl : PE X e tl) : PI X tg e (iListTup X.K tl) := by
  refine ⟨fun pins s σ H R I h => ?_⟩
  refine thn (hl.run pins s σ H _ I h) fun v s1 ⟨x, H1, I1, r1, q1⟩ => ?_
  obtain ⟨a, e, q⟩ := q1
  subst e
  cases r1
  rcases q with ⟨⟨xs, hq⟩, q⟩ | ⟨⟨xs, hq⟩, q⟩
  · obtain ⟨its, rv, p, hz⟩ := I1.list hq
    refine wpAny_pyIter_list p.isList ?_
    refine ⟨s1.heap.objs.size, [s1.heap.objs.size], _, _, H1, rfl, I1.kept (t' := s1.toks) fun b o e => Heap.get?_push_of_some _ e, turn_list a _, ⟨_, Heap.get?_push_size _ rfl, rfl, rfl⟩, fun b hb => ?_, q⟩
    have e : b = s1.heap.objs.size := by simpa using hb
    subst e
    exact I1.fpOk (Nat.le_refl _) (I1.hok.fresh (Nat.le_refl _))
  · obtain ⟨its, rv, p, hz⟩ := I1.tuple hq
    refine wpAny_pyIter_tuple (show s1.heap.IsTuple a its.toArray from p) ?_
    refine ⟨s1.heap.objs.size, [s1.heap.objs.size], _, _, H1, rfl, I1.kept (t' := s1.toks) fun b o e => Heap.get?_push_of_some _ e, turn_tuple a _, ⟨_, Heap.get?_push_size _ rfl, rfl, rfl⟩, fun b hb => ?_, q⟩
    have e : b = s1.heap.objs.size := by simpa using hb
    subst e
    exact I1.fpOk (Nat.le_refl _) (I1.hok.fresh (Nat.le_refl _))
theorem id_lt (h : PE X e (lE L A)) (hK : L.K = X.K := by rfl) : PI X tg e (lI L (iLT A)) :=
  PI.weak (pi_lt h) fun σ H Q ⟨m, H0, ρ, P, R, I, q, k, x⟩ => ⟨m, H0, ρ, _, R, I, q, fun d ρ' v H0' H' ⟨ds, ed, p⟩ ex I' r => by
    rcases ed with ed | ed
    · subst ed
      obtain ⟨a, ws, rfl, hs, rs⟩ := r.lst_inv
      exact ⟨a, rfl, .inl ⟨⟨ws, SqL.of (I'.sub _ _ hs)⟩, k ds ρ' H0' H' _ p ex I' (by rw [← hK]; exact dw_list (SqL.of hs) rs)⟩⟩
    · subst ed
      obtain ⟨a, ws, rfl, hs, rs⟩ := r.tup_inv
      exact ⟨a, rfl, .inr ⟨⟨ws, by rw [← hK]; exact ex_t I'.sub hs⟩, k ds ρ' H0' H' _ p ex I' (by rw [← hK]; exact dw_tup hs rs)⟩⟩, x⟩
end
end DV

set_option Elab.async false
set_option linter.all false
set_option maxRecDepth 100000
set_option maxHeartbeats 4000000
/-! DV: a law's end. -/
namespace DV
open PySem PySem.Spec PyProof.Rows L2
theorem walk_ofW {l : PySem.W.OpenLaw} {n k : Nat} {q : Program} {loose : List Str} {XP : (Str → Option Value) → Heap → Prop} {YP : World → Heap → Prop} {d : DefRec} {x : Str}
    (hn : l.most = some n) (hn2 : n ≤ sizeLine) (hdf : d.params.defaults = []) (hr : Room k callerA)
    (F : ∀ (w : World) (mg : Str → Option Value) (fa : Addr) (h : Heap), YP w h → h.Ns mainGlobals mg → mg d.name = some (.ref fa) →
      ∃ (K : PySem.W.Frag) (fd : FuncData) (sp : DSp), K.In h ∧ (∀ (s : Shared) (u : Value), BindsTo s fd ⟨[u], []⟩ [(x, u)]) ∧
        (∀ ns : List Int, ns.length ≤ n → (∀ z ∈ ns, Builtin.Int.intBits z ≤ 1048576) → sp [.scr ns] (fun d _ => d = .bl true) fun _ _ => False) ∧
        ∀ base : Heap, K.In base → base.Ns mainGlobals mg → FnOk l.prog w K mg base (L2.CX l.prog w) k fa fd [x] (spP K (fun _ => True) sp)) :
    PySem.W.WalkO q loose XP YP l.row.toRowW d [] (fun f vs => PySem.call f vs) := by
  refine Att.attach_callB hn hdf fun w s₀ s₁ mg mb fa o pm cd doc a vs ns G Y ho hd hcd hmg hobj hints hlen hbits hg => ?_
  obtain ⟨K, fd, sp, KX, hb, hsp, hF⟩ := F w mg fa _ Y G.T.g hmg
  refine law_call KX G.T.g G.T.b G.T.builtins G.T.nolimit hg hobj hints (Nat.le_trans hlen hn2) hr hF hb (fun H hO hS => ?_) fun H e s' ⟨_, _, _, _, _, _, _, _, _, _, _, _, z⟩ => z
  refine ⟨H, [.scr ns], _, _, Ex.refl _, trivial, .scr hS .nil, hsp ns hlen hbits, fun d d0 v H0' H' p _ r => ?_, fun _ _ _ _ _ _ p => p.elim⟩
  subst p
  exact r.bl_inv
end DV

set_option Elab.async false
set_option linter.all false
set_option maxRecDepth 100000
set_option maxHeartbeats 4000000
/-! What each def promises, of data. -/
namespace KT
open PySem L2 DV
abbrev dl (ns : List Int) : D := .lst (ns.map D.int)
abbrev dt (ns : List Int) : D := .tup (ns.map D.int)
def seqD (d : D) (ns : List Int) : Prop := d = dl ns ∨ d = dt ns
/-! ### rings -/
def sums (L : List Int) : List Int := L.foldl (fun acc a => acc ++ acc.map (fun x => x + a)) [0]
def mx (L : List Int) : Int := L.foldl max 0
def closesB (L : List Int) : Bool := decide (2 * mx L ≤ L.sum)
def clearB (L : List Int) : Bool := decide (L.sum % 2 = 1) || !decide (L.sum / 2 ∈ sums L)
structure okL (L : List Int) : Prop where
  lo : 3 ≤ L.length
  hi : L.length ≤ 8
  b : ∀ x ∈ L, 1 ≤ x ∧ x ≤ 1000000
def ringD (K : PySem.W.Frag) (L : List Int) : D := .obj (He.ga K "Ring") [("lengths", dt L), ("total", .int L.sum), ("closes", .bl (closesB L)), ("is_clear", .bl (clearB L))]
def gI (L : List Int) (b : Int) : Int := L.getD b.toNat 0
def lsum (L lot : List Int) : Int := (lot.map (gI L)).sum
def within (n : Nat) (lot : List Int) : Prop := ∀ b ∈ lot, 0 ≤ b ∧ b < (n : Int)
def lotOk (n : Nat) (lot : List Int) : Prop := lot.Nodup ∧ within n lot
def srt (L lot : List Int) : Str := if 2 * lsum L lot = L.sum then "level" else if 2 * lsum L lot < L.sum then "short" else "long"
/-! ### books -/
def lotlt (a b : List Int) : Prop := SrtO.lexT ((a.length : Int), a) ((b.length : Int), b) = true
def Lot (n : Nat) (lot : List Int) : Prop := lot.Pairwise (· < ·) ∧ within n lot
structure Book (n : Nat) (p : List Int → Prop) (Ls : List (List Int)) : Prop where
  asc : Ls.Pairwise lotlt
  mem : ∀ lot, lot ∈ Ls ↔ Lot n lot ∧ p lot
  few : Ls.length ≤ 256
def leastLong (L lot : List Int) : Prop := srt L lot = "long" ∧ ∀ i < lot.length, srt L (lot.take i ++ lot.drop (i + 1)) ≠ "long"
def greatestShort (L lot : List Int) : Prop := srt L lot = "short" ∧ ∀ b : Int, 0 ≤ b → b < (L.length : Int) → b ∉ lot → srt L (lot ++ [b]) ≠ "short"
def rgI (n : Nat) : List Int := (List.range n).map fun (k : Nat) => (k : Int)
def asOne (L : List Int) (b : Nat) : List Int := if b + 1 = L.length then (gI L (b : Int) + gI L 0) :: (L.drop 1).take (b - 1) else L.take b ++ (gI L (b : Int) + gI L ((b : Int) + 1)) :: L.drop (b + 2)
def inTwo (L : List Int) (b : Nat) (x : Int) : List Int := L.take b ++ x :: (gI L (b : Int) - x) :: L.drop (b + 1)
/-! ### the pen -/
def penD (c : List Int) (a e : Int) : D := .lst [dl c, .int a, .int e]
def PenOk (k : Nat) (d : D) : Prop := ∃ c a e, d = penD c a e ∧ c.length ≤ 60 ∧ 0 ≤ a ∧ a ≤ (k : Int) ∧ 0 ≤ e
/-! ### the defs -/
def sp_is_integer (K : PySem.W.Frag) : DSp := fun ds P _ => ∃ n : Int, ds = [.int n] ∧ P (.bl true) .non
def sp_is_within (K : PySem.W.Frag) : DSp := fun ds P _ => ∃ v lo hi : Int, ds = [.int v, .int lo, .int hi] ∧ P (.bl (decide (lo ≤ v) && decide (v ≤ hi))) .non
def sp_are_lengths (K : PySem.W.Frag) : DSp := fun ds P _ => ∃ (d : D) (ns : List Int), ds = [d] ∧ seqD d ns ∧ ns.length ≤ 1000 ∧ P (.bl (ns.all fun x => decide (1 ≤ x) && decide (x ≤ 1000000))) .non
def sp_sums_of (K : PySem.W.Frag) : DSp := fun ds P _ => ∃ (d : D) (ns : List Int), ds = [d] ∧ seqD d ns ∧ ns.length ≤ 8 ∧ ∀ kds : List (Key × D), (∀ x : Int, (kds.any fun q => decide (q.1 = .inl x)) = decide (x ∈ sums ns)) → P (.dic kds) .non
def sp_Ring_init (K : PySem.W.Frag) : DSp := fun ds P _ => ∃ (d : D) (L : List Int), ds = [.obj (He.ga K "Ring") [], d] ∧ seqD d L ∧ okL L ∧ P .non (ringD K L)
def sp_Ring_backwards (K : PySem.W.Frag) : DSp := fun ds P _ => ∃ L : List Int, ds = [ringD K L] ∧ okL L ∧ P (ringD K (L.take 1 ++ (L.drop 1).reverse)) .non
def sp_need_bar (K : PySem.W.Frag) : DSp := fun ds P _ => ∃ (L : List Int) (b : Int), ds = [ringD K L, .int b] ∧ okL L ∧ 0 ≤ b ∧ b < (L.length : Int) ∧ P .non .non
def sp_Ring_begun_at (K : PySem.W.Frag) : DSp := fun ds P _ => ∃ L : List Int, ∃ b : Nat, ds = [ringD K L, .int (b : Int)] ∧ okL L ∧ b < L.length ∧ P (ringD K (L.drop b ++ L.take b)) .non
def sp_is_numbers (K : PySem.W.Frag) : DSp := fun ds P _ => ∃ (d : D) (ns : List Int), ds = [d] ∧ seqD d ns ∧ ns.length ≤ 1000 ∧ P (.bl true) .non
def sp_Ring_in_order (K : PySem.W.Frag) : DSp := fun ds P _ => ∃ (L o : List Int), ds = [ringD K L, dl o] ∧ okL L ∧ o.Perm (rgI L.length) ∧ P (ringD K (o.map (gI L))) .non
def sp__law_draw (K : PySem.W.Frag) : DSp := fun ds P _ => ∃ (k : Nat) (d0 : D) (m : Int), ds = [d0, .int m] ∧ PenOk k d0 ∧ k ≤ 100000 ∧ 1 ≤ m ∧ m ≤ 1000000000 ∧ ∀ v d1, 0 ≤ v → v < m → PenOk (k + 1) d1 → P (.int v) d1
def sp__law_lots_anew (K : PySem.W.Frag) : DSp := fun ds P _ => ∃ (n : Nat) (Ms : List (List Int)) (o : List Int), ds = [.tup (Ms.map dt), dl o] ∧ n ≤ 8 ∧ o.Perm (rgI n) ∧ (∀ lot ∈ Ms, Lot n lot) ∧ Ms.Nodup ∧ Ms.length ≤ 256 ∧
  ∀ Ms' : List (List Int), Ms'.Pairwise lotlt → (∀ lot', lot' ∈ Ms' ↔ Lot n lot' ∧ ∃ lot ∈ Ms, lot.Perm (lot'.map (gI o))) → P (.tup (Ms'.map dt)) .non
def sp__law_mixed (K : PySem.W.Frag) : DSp := fun ds P _ => ∃ (k : Nat) (d0 : D) (is : List Int), ds = [d0, dl is] ∧ PenOk k d0 ∧ k + is.length ≤ 100000 ∧ is.length ≤ 100 ∧ ∀ o d1, o.Perm is → PenOk (k + is.length) d1 → P (dl o) d1
def sp_lots_of (K : PySem.W.Frag) : DSp := fun ds P _ => ∃ n : Nat, ds = [.int (n : Int)] ∧ n ≤ 8 ∧ ∀ Ls, Book n (fun _ => True) Ls → P (.tup (Ls.map dt)) .non
def sp_sort_in (K : PySem.W.Frag) : DSp := fun ds P _ => ∃ (L lot : List Int) (d : D), ds = [ringD K L, d] ∧ seqD d lot ∧ okL L ∧ within L.length lot ∧ lot.length ≤ 1000 ∧ P (.str (srt L lot)) .non
def sp_lots_sorted (K : PySem.W.Frag) : DSp := fun ds P _ => ∃ (L : List Int) (s : Str), ds = [ringD K L, .str s] ∧ SeqAt.shaped (.str s) = true ∧ okL L ∧ ∀ Ls, Book L.length (fun lot => srt L lot = s) Ls → P (.tup (Ls.map dt)) .non
def sp_need_ring (K : PySem.W.Frag) : DSp := fun ds P _ => ∃ (L : List Int) (p : Str), ds = [ringD K L, .str p] ∧ P .non .non
def spBook (K : PySem.W.Frag) (p : List Int → List Int → Prop) : DSp := fun ds P _ => ∃ L : List Int, ds = [ringD K L] ∧ okL L ∧ ∀ Ls, Book L.length (p L) Ls → P (.tup (Ls.map dt)) .non
def sp_greatest_short (K : PySem.W.Frag) : DSp := spBook K greatestShort
def sp_less_by_one (K : PySem.W.Frag) : DSp := fun ds P _ => ∃ lot : List Int, ds = [dt lot] ∧ lot.length ≤ 1000 ∧ P (.lst ((List.range lot.length).map fun i => dt (lot.take i ++ lot.drop (i + 1)))) .non
def sp_least_long (K : PySem.W.Frag) : DSp := spBook K leastLong
def sp_level_lots (K : PySem.W.Frag) : DSp := spBook K fun L lot => srt L lot = "level"
def sp_short_lots (K : PySem.W.Frag) : DSp := spBook K fun L lot => srt L lot = "short"
def sp__law_anew_right (K : PySem.W.Frag) : DSp := fun ds P _ => ∃ (k : Nat) (d0 : D) (L : List Int), ds = [d0, dl L] ∧ PenOk k d0 ∧ k ≤ 10000 ∧ okL L ∧ ∀ d1, PenOk (k + 10) d1 → P (.bl true) d1
def sp__law_lengths (K : PySem.W.Frag) : DSp := fun ds P _ => ∃ (k : Nat) (d0 : D), ds = [d0] ∧ PenOk k d0 ∧ k ≤ 10000 ∧ ∀ L d1, okL L → PenOk (k + 40) d1 → P (dl L) d1
def sp__law_pen (K : PySem.W.Frag) : DSp := fun ds P _ => ∃ ns : List Int, ds = [.scr ns] ∧ ns.length ≤ 63 ∧ P (penD (ns.take 60) 0 0) .non
def sp_Ring_as_one (K : PySem.W.Frag) : DSp := fun ds P _ => ∃ L : List Int, ∃ b : Nat, ds = [ringD K L, .int (b : Int)] ∧ okL L ∧ 4 ≤ L.length ∧ (∀ x ∈ L, x ≤ 500000) ∧ b < L.length ∧ P (ringD K (asOne L b)) .non
def sp_first_twice (K : PySem.W.Frag) : DSp := fun ds P _ => ∃ (d : D) (ns : List Int), ds = [d] ∧ seqD d ns ∧ ns.Nodup ∧ ns.length ≤ 1000 ∧ P .non .non
def sp_need_lot_of (K : PySem.W.Frag) : DSp := fun ds P _ => ∃ (n : Nat) (lot : List Int) (d : D) (p : Str), ds = [.int (n : Int), d, .str p] ∧ seqD d lot ∧ lotOk n lot ∧ lot.length ≤ 1000 ∧ P .non .non
def sp_need_lot (K : PySem.W.Frag) : DSp := fun ds P _ => ∃ (L lot : List Int) (d : D) (p : Str), ds = [ringD K L, d, .str p] ∧ seqD d lot ∧ lotOk L.length lot ∧ lot.length ≤ 1000 ∧ P .non .non
def sp_Ring_length_of (K : PySem.W.Frag) : DSp := fun ds P _ => ∃ (L lot : List Int) (d : D), ds = [ringD K L, d] ∧ seqD d lot ∧ okL L ∧ lotOk L.length lot ∧ lot.length ≤ 1000 ∧ P (.int (lsum L lot)) .non
def sp_Ring_sort_of (K : PySem.W.Frag) : DSp := fun ds P _ => ∃ (L lot : List Int) (d : D), ds = [ringD K L, d] ∧ seqD d lot ∧ okL L ∧ lotOk L.length lot ∧ lot.length ≤ 1000 ∧ P (.str (srt L lot)) .non
def sp__law_lots (K : PySem.W.Frag) : DSp := fun ds P _ => ∃ n : Nat, ds = [.int (n : Int)] ∧ n ≤ 8 ∧ ∀ Ls, Book n (fun _ => True) Ls → P (.lst (Ls.map dt)) .non
def sp__law_sort (K : PySem.W.Frag) : DSp := fun ds P _ => ∃ (L lot : List Int) (d : D), ds = [dl L, d] ∧ seqD d lot ∧ okL L ∧ lotOk L.length lot ∧ lot.length ≤ 1000 ∧ P (.str (srt L lot)) .non
def sp__law_together_right (K : PySem.W.Frag) : DSp := fun ds P _ => ∃ (k : Nat) (d0 : D) (L : List Int), ds = [d0, dl L] ∧ PenOk k d0 ∧ k ≤ 10000 ∧ okL L ∧ 4 ≤ L.length ∧ (∀ x ∈ L, x ≤ 500000) ∧ ∀ d1, PenOk (k + 1) d1 → P (.bl true) d1
def sp_Ring_in_two (K : PySem.W.Frag) : DSp := fun ds P _ => ∃ L : List Int, ∃ b : Nat, ∃ x : Int, ds = [ringD K L, .int (b : Int), .int x] ∧ okL L ∧ L.length ≤ 7 ∧ b < L.length ∧ 1 ≤ x ∧ x < gI L (b : Int) ∧ P (ringD K (inTwo L b x)) .non
def sp__law_pick (K : PySem.W.Frag) : DSp := fun ds P _ => ∃ (k : Nat) (d0 : D) (is : List Int), ds = [d0, dl is] ∧ PenOk k d0 ∧ k ≤ 100000 ∧ is ≠ [] ∧ is.length ≤ 1000 ∧ ∀ v d1, v ∈ is → PenOk (k + 1) d1 → P (.int v) d1
def sp__law_two_right (K : PySem.W.Frag) : DSp := fun ds P _ => ∃ (k : Nat) (d0 : D) (L : List Int), ds = [d0, dl L] ∧ PenOk k d0 ∧ k ≤ 10000 ∧ okL L ∧ L.length ≤ 7 ∧ (∃ x ∈ L, 1 < x) ∧ ∀ d1, PenOk (k + 2) d1 → P (.bl true) d1
def sp_law (K : PySem.W.Frag) : DSp := fun ds P _ => ∃ ns : List Int, ds = [.scr ns] ∧ ns.length ≤ 63 ∧ P (.bl true) .non
end KT

set_option Elab.async false
set_option linter.all false
set_option maxRecDepth 100000
set_option maxHeartbeats 4000000
/-! Printed by a program of mine: what each def does, as data. -/
namespace KT
open PySem L2 DV
/- is_integer: 0 value -/
def B_is_integer (K : PySem.W.Frag) : DS := (sRet (eAnd (eUn (fun x P => dIsi K x (.ty "int") P) (eV 0)) (eNot (eUn (fun x P => dIsi K x (.ty "bool") P) (eV 0)))))
/- is_within: 0 value, 1 least, 2 most -/
def B_is_within (K : PySem.W.Frag) : DS := (sSeq (sIf (uOr (uNot (tV (eCall (sp_is_integer K) (aCons (eV 0) aNil)))) (uAnd (tV (eBin (dIs true) (eV 1) (eC .non))) (tV (eBin dLt (eV 0) (eV 1))))) (sRet (eC (.bl false))) sNx) (sRet (eOr (eBin (dIs false) (eV 2) (eC .non)) (eBin dLe (eV 0) (eV 2)))))
/- are_lengths: 0 value, 1 length -/
def B_are_lengths (K : PySem.W.Frag) : DS := (sRet (eAnd (eUn (fun x P => dIsiT K [.type "list", .type "tuple"] x P) (eV 0)) (eUn dAll (eLc (iLT (eV 0)) [1] (gN 1) uYes (eCall (sp_is_within K) (aCons (eV 1) (aCons (eC (.int 1)) (aCons (eC (.int 1000000)) aNil))))))))
/- sums_of: 0 lengths, 1 found, 2 length, 3 one -/
def B_sums_of (K : PySem.W.Frag) : DS := (sSeq (sSetO 1 (eD1 (eC (.int 0)) (eC (.bl true)))) (sSeq (sFor (iLT (eV 0)) (gN 2) (sDupd 1 (eDc (iLT (eUn dList (eO 1))) [3] (gN 3) uYes (eBin dAdd (eV 3) (eV 2)) (eC (.bl true))))) (sFz 1 (sRet (eV 1)))))
/- Ring.__init__: 0 self, 1 lengths -/
def B_Ring_init (K : PySem.W.Frag) : DS := (sSeq (sIf (uNot (tV (eCall (sp_are_lengths K) (aCons (eV 1) aNil)))) sNo sNx) (sSeq (sIf (tV (eBin dLt (eUn dLen (eO 1)) (eC (.int 3)))) sNo sNx) (sSeq (sIf (tV (eBin dGt (eUn dLen (eO 1)) (eC (.int 8)))) sNo sNx) (sSeq (sFldS 0 (He.ga K "Ring") "lengths" (eUn dTuple (eO 1))) (sSeq (sFldS 0 (He.ga K "Ring") "total" (eUn dSum (eO 1))) (sSeq (sFldS 0 (He.ga K "Ring") "closes" (eBin dLe (eBin dMul (eC (.int 2)) (eUn dMax (eO 1))) (eUn (dFld (He.ga K "Ring") "total") (eO 0)))) (sFldS 0 (He.ga K "Ring") "is_clear" (eOr (eBin (dEq false) (eBin dMod (eUn (dFld (He.ga K "Ring") "total") (eO 0)) (eC (.int 2))) (eC (.int 1))) (eBin (dIn true) (eBin dFdiv (eUn (dFld (He.ga K "Ring") "total") (eO 0)) (eC (.int 2))) (eCall (sp_sums_of K) (aCons (eV 1) aNil)))))))))))
/- Ring.backwards: 0 self -/
def B_Ring_backwards (K : PySem.W.Frag) : DS := (sRet (eMake (He.ga K "Ring") (sp_Ring_init K) (aCons (eBin dAdd (eSl dSlT (eUn (dFld (He.ga K "Ring") "lengths") (eO 0)) oNo (oIs (eC (.int 1)))) (eUn dBack (eUn (dFld (He.ga K "Ring") "lengths") (eO 0)))) aNil)))
/- need_bar: 0 ring, 1 value -/
def B_need_bar (K : PySem.W.Frag) : DS := (sIf (uNot (tV (eCall (sp_is_within K) (aCons (eV 1) (aCons (eC (.int 0)) (aCons (eBin dSub (eUn dLen (eUn (dFld (He.ga K "Ring") "lengths") (eO 0))) (eC (.int 1))) aNil)))))) sNo sNx)
/- Ring.begun_at: 0 self, 1 bar -/
def B_Ring_begun_at (K : PySem.W.Frag) : DS := (sSeq (sEx (eCall (sp_need_bar K) (aCons (eV 0) (aCons (eV 1) aNil)))) (sRet (eMake (He.ga K "Ring") (sp_Ring_init K) (aCons (eBin dAdd (eSl dSlT (eUn (dFld (He.ga K "Ring") "lengths") (eO 0)) (oIs (eV 1)) oNo) (eSl dSlT (eUn (dFld (He.ga K "Ring") "lengths") (eO 0)) oNo (oIs (eV 1)))) aNil))))
/- is_numbers: 0 value, 1 part -/
def B_is_numbers (K : PySem.W.Frag) : DS := (sRet (eAnd (eUn (fun x P => dIsiT K [.type "list", .type "tuple"] x P) (eV 0)) (eUn dAll (eLc (iLT (eV 0)) [1] (gN 1) uYes (eCall (sp_is_integer K) (aCons (eV 1) aNil))))))
/- Ring.in_order: 0 self, 1 order, 2 bar -/
def B_Ring_in_order (K : PySem.W.Frag) : DS := (sSeq (sIf (uOr (uNot (tV (eCall (sp_is_numbers K) (aCons (eV 1) aNil)))) (tV (eBin (dEq true) (eUn dSorted (eO 1)) (eUn dRng (eUn dLen (eUn (dFld (He.ga K "Ring") "lengths") (eO 0))))))) sNo sNx) (sRet (eMake (He.ga K "Ring") (sp_Ring_init K) (aCons (eLc (iLT (eV 1)) [2] (gN 2) uYes (eBin dIx (eUn (dFld (He.ga K "Ring") "lengths") (eO 0)) (eV 2))) aNil))))
/- _law_draw: 0 _law_pen_here, 1 _law_many, 2 _law_digit, 3 _law_at, 4 _law_cell, 5 _law_great, 6 _law_mixed_here -/
def B__law_draw (K : PySem.W.Frag) : DS := (sSeq (sIf (tV (eBin dGt (eIxO 0 (eC (.int 2))) (eC (.int 0)))) (sSeq (sSet 2 (eBin dMod (eUn dInt (eIxO 0 (eC (.int 2)))) (eV 1))) (sSeq (sSub 0 (eBin dFdiv (eUn dInt (eIxO 0 (eC (.int 2)))) (eV 1)) (eC (.int 2))) (sRet (eV 2)))) sNx) (sSeq (sSet 3 (eIxO 0 (eC (.int 1)))) (sSeq (sSub 0 (eBin dAdd (eV 3) (eC (.int 1))) (eC (.int 1))) (sSeq (sSet 4 (eBin dAdd (eBin dMul (eC (.int 59333)) (eV 3)) (eC (.int 2539)))) (sSeq (sIf (tV (eBin (dEq true) (eIxO 0 (eC (.int 0))) (eLst aNil))) (sSet 4 (eBin dIx (eIxO 0 (eC (.int 0))) (eBin dMod (eUn dInt (eO 3)) (eUn dLen (eIxO 0 (eC (.int 0))))))) sNx) (sSeq (sIf (uAnd (tV (eBin dLt (eV 3) (eUn dLen (eIxO 0 (eC (.int 0)))))) (tV (eBin dGe (eUn dAbs (eO 4)) (eBin dPow (eC (.int 10)) (eC (.int 18)))))) (sSeq (sSet 5 (eBin dAdd (eBin dMul (eC (.int 2)) (eBin dSub (eUn dAbs (eO 4)) (eBin dPow (eC (.int 10)) (eC (.int 18))))) (eUn dInt (eBin dLt (eV 4) (eC (.int 0)))))) (sSeq (sSub 0 (eBin dFdiv (eUn dInt (eO 5)) (eV 1)) (eC (.int 2))) (sRet (eBin dMod (eUn dInt (eO 5)) (eV 1))))) sNx) (sSeq (sSet 6 (eBin dMod (eUn dInt (eBin dPow (eBin dAdd (eBin dAdd (eBin dMod (eUn dInt (eO 4)) (eC (.int 2147483543))) (eBin dMul (eC (.int 59333)) (eV 3))) (eC (.int 2539))) (eC (.int 5)))) (eC (.int 2147483629)))) (sSeq (sSet 6 (eBin dMod (eUn dInt (eBin dPow (eBin dAdd (eBin dAdd (eBin dMul (eV 6) (eBin dAdd (eBin dMul (eC (.int 2)) (eV 3)) (eC (.int 2137)))) (eBin dMul (eBin dMul (eC (.int 57037)) (eV 3)) (eV 3))) (eC (.int 2539))) (eC (.int 3)))) (eC (.int 2147483647)))) (sRet (eBin dMod (eUn dInt (eBin dFdiv (eV 6) (eC (.int 64)))) (eV 1)))))))))))
/- _law_lots_anew: 0 _law_lots_here, 1 _law_order, 2 _law_found, 3 _law_lot, 4 _law_bar, 5 _law_size -/
def B__law_lots_anew (K : PySem.W.Frag) : DS := (sSeq (sSet 2 (eLc (iLT (eV 0)) [3] (gN 3) uYes (eUn dTuple (eUn dSorted (eLc (iLT (eV 3)) [4] (gN 4) uYes (eIndex (eV 1) (eV 4))))))) (sRet (eUn dTuple (eLc (iLT (eUn dSortP (eLc (iLT (eV 2)) [3] (gN 3) uYes (eTup (aCons (eUn dLen (eO 3)) (aCons (eV 3) aNil)))))) [5, 3] (gT [5, 3]) uYes (eV 3)))))
/- _law_mixed: 0 _law_pen_here, 1 _law_items, 2 _law_left, 3 _law_found, 4 _law_turn -/
def B__law_mixed (K : PySem.W.Frag) : DS := (sSeq (sParOO 2 3 (eUn dList (eO 1)) (eLst aNil)) (sSeq (sFor (iR1 (eUn dLen (eO 1))) (gN 4) (sApp 3 (ePop 2 (eCallO' (sp__law_draw K) 0 (aCons (eUn dLen (eO 2)) aNil))))) (sFz 3 (sRet (eV 3)))))
/- lots_of: 0 many, 1 found, 2 bar, 3 lot, 4 size -/
def B_lots_of (K : PySem.W.Frag) : DS := (sSeq (sSet 1 (eLst (aCons (eTup aNil) aNil))) (sSeq (sFor (iR1 (eV 0)) (gN 2) (sSet 1 (eBin dAdd (eV 1) (eLc (iLT (eV 1)) [3] (gN 3) uYes (eTup (aStar (eV 3) (aCons (eV 2) aNil))))))) (sRet (eUn dTuple (eLc (iLT (eUn dSortP (eLc (iLT (eV 1)) [3] (gN 3) uYes (eTup (aCons (eUn dLen (eO 3)) (aCons (eV 3) aNil)))))) [4, 3] (gT [4, 3]) uYes (eV 3))))))
/- sort_in: 0 ring, 1 lot, 2 twice, 3 bar -/
def B_sort_in (K : PySem.W.Frag) : DS := (sSeq (sSet 2 (eBin dMul (eC (.int 2)) (eUn dSum (eLc (iLT (eV 1)) [3] (gN 3) uYes (eBin dIx (eUn (dFld (He.ga K "Ring") "lengths") (eO 0)) (eV 3)))))) (sSeq (sIf (tV (eBin (dEq false) (eV 2) (eUn (dFld (He.ga K "Ring") "total") (eO 0)))) (sRet (eC (.str "level"))) sNx) (sRet (eIf (tV (eBin dLt (eV 2) (eUn (dFld (He.ga K "Ring") "total") (eO 0)))) (eC (.str "short")) (eC (.str "long"))))))
/- lots_sorted: 0 ring, 1 sort, 2 lot -/
def B_lots_sorted (K : PySem.W.Frag) : DS := (sRet (eUn dTuple (eLc (iLT (eCall (sp_lots_of K) (aCons (eUn dLen (eUn (dFld (He.ga K "Ring") "lengths") (eO 0))) aNil))) [2] (gN 2) (tV (eBin (dEq false) (eCall (sp_sort_in K) (aCons (eV 0) (aCons (eV 2) aNil))) (eO 1))) (eV 2))))
/- need_ring: 0 value, 1 part -/
def B_need_ring (K : PySem.W.Frag) : DS := (sIf (uNot (tV (eUn (fun x P => dIsi K x (.glb (He.ga K "Ring")) P) (eV 0)))) sNo sNx)
/- greatest_short: 0 ring, 1 found, 2 lot, 3 others, 4 bar -/
def B_greatest_short (K : PySem.W.Frag) : DS := (sSeq (sEx (eCall (sp_need_ring K) (aCons (eV 0) (aCons (eC (.str "ring")) aNil)))) (sSeq (sSetO 1 (eLst aNil)) (sSeq (sFor (iLT (eCall (sp_lots_sorted K) (aCons (eV 0) (aCons (eC (.str "short")) aNil)))) (gN 2) (sSeq (sSet 3 (eLc (iR1 (eUn dLen (eUn (dFld (He.ga K "Ring") "lengths") (eO 0)))) [4] (gN 4) (tV (eBin (dIn true) (eV 4) (eO 2))) (eV 4))) (sIf (uNot (tV (eUn dAny (eLc (iLT (eV 3)) [4] (gN 4) uYes (eBin (dEq false) (eCall (sp_sort_in K) (aCons (eV 0) (aCons (eTup (aStar (eV 2) (aCons (eV 4) aNil))) aNil))) (eC (.str "short"))))))) (sApp 1 (eV 2)) sNx))) (sRet (eUn dTuple (eO 1))))))
/- less_by_one: 0 lot, 1 at -/
def B_less_by_one (K : PySem.W.Frag) : DS := (sRet (eLc (iR1 (eUn dLen (eO 0))) [1] (gN 1) uYes (eBin dAdd (eSl dSlT (eV 0) oNo (oIs (eV 1))) (eSl dSlT (eV 0) (oIs (eBin dAdd (eV 1) (eC (.int 1)))) oNo))))
/- least_long: 0 ring, 1 found, 2 lot, 3 less -/
def B_least_long (K : PySem.W.Frag) : DS := (sSeq (sEx (eCall (sp_need_ring K) (aCons (eV 0) (aCons (eC (.str "ring")) aNil)))) (sSeq (sSetO 1 (eLst aNil)) (sSeq (sFor (iLT (eCall (sp_lots_sorted K) (aCons (eV 0) (aCons (eC (.str "long")) aNil)))) (gN 2) (sIf (uNot (tV (eUn dAny (eLc (iLT (eCall (sp_less_by_one K) (aCons (eV 2) aNil))) [3] (gN 3) uYes (eBin (dEq false) (eCall (sp_sort_in K) (aCons (eV 0) (aCons (eV 3) aNil))) (eC (.str "long"))))))) (sApp 1 (eV 2)) sNx)) (sRet (eUn dTuple (eO 1))))))
/- level_lots: 0 ring -/
def B_level_lots (K : PySem.W.Frag) : DS := (sSeq (sEx (eCall (sp_need_ring K) (aCons (eV 0) (aCons (eC (.str "ring")) aNil)))) (sRet (eCall (sp_lots_sorted K) (aCons (eV 0) (aCons (eC (.str "level")) aNil)))))
/- short_lots: 0 ring -/
def B_short_lots (K : PySem.W.Frag) : DS := (sSeq (sEx (eCall (sp_need_ring K) (aCons (eV 0) (aCons (eC (.str "ring")) aNil)))) (sRet (eCall (sp_lots_sorted K) (aCons (eV 0) (aCons (eC (.str "short")) aNil)))))
/- _law_anew_right: 0 _law_pen_here, 1 _law_lengths_here, 2 _law_ring, 3 _law_many, 4 _law_bar, 5 _law_rows, 6 _law_order, 7 _law_new, 8 _law_places, 9 _law_ask, 10 _law_at -/
def B__law_anew_right (K : PySem.W.Frag) : DS := (sSeq (sAsg (eTup (aCons (eMake (He.ga K "Ring") (sp_Ring_init K) (aCons (eV 1) aNil)) (aCons (eUn dLen (eO 1)) aNil))) (gT [2, 3])) (sSeq (sSet 4 (eCallO' (sp__law_draw K) 0 (aCons (eV 3) aNil))) (sSeq (sSetO 5 (eLst (aCons (eTup (aCons (eMeth (He.ga K "Ring") "begun_at" (sp_Ring_begun_at K) (eV 2) (aCons (eV 4) aNil)) (aCons (eLc (iR1 (eV 3)) [10] (gN 10) uYes (eBin dMod (eUn dInt (eBin dAdd (eV 4) (eV 10))) (eV 3))) aNil))) aNil))) (sSeq (sApp 5 (eTup (aCons (eMeth (He.ga K "Ring") "backwards" (sp_Ring_backwards K) (eV 2) aNil) (aCons (eLc (iR1 (eV 3)) [10] (gN 10) uYes (eBin dMod (eUn dInt (eBin dSub (eV 3) (eV 10))) (eV 3))) aNil)))) (sSeq (sSet 6 (eCallO' (sp__law_mixed K) 0 (aCons (eUn dRng (eV 3)) aNil))) (sSeq (sApp 5 (eTup (aCons (eMeth (He.ga K "Ring") "in_order" (sp_Ring_in_order K) (eV 2) (aCons (eV 6) aNil)) (aCons (eV 6) aNil)))) (sFz 5 (sSeq (sFor (iLT (eV 5)) (gT [7, 8]) (sSeq (sFor (iLT (eTup (aCons (eC (.glb (He.ga K "short_lots"))) (aCons (eC (.glb (He.ga K "level_lots"))) (aCons (eC (.glb (He.ga K "least_long"))) (aCons (eC (.glb (He.ga K "greatest_short"))) aNil)))))) (gN 9) (sIf (tV (eBin (dEq true) (eCallR 9 [(He.ga K "short_lots", sp_short_lots K), (He.ga K "level_lots", sp_level_lots K), (He.ga K "least_long", sp_least_long K), (He.ga K "greatest_short", sp_greatest_short K)] (aCons (eV 7) aNil)) (eCall (sp__law_lots_anew K) (aCons (eCallR 9 [(He.ga K "short_lots", sp_short_lots K), (He.ga K "level_lots", sp_level_lots K), (He.ga K "least_long", sp_least_long K), (He.ga K "greatest_short", sp_greatest_short K)] (aCons (eV 2) aNil)) (aCons (eV 8) aNil))))) (sRet (eC (.bl false))) sNx)) (sIf (tV (eBin (dEq true) (eTup (aCons (eUn (dFld (He.ga K "Ring") "closes") (eO 7)) (aCons (eUn (dFld (He.ga K "Ring") "is_clear") (eO 7)) (aCons (eUn (dFld (He.ga K "Ring") "total") (eO 7)) aNil)))) (eTup (aCons (eUn (dFld (He.ga K "Ring") "closes") (eO 2)) (aCons (eUn (dFld (He.ga K "Ring") "is_clear") (eO 2)) (aCons (eUn (dFld (He.ga K "Ring") "total") (eO 2)) aNil)))))) (sRet (eC (.bl false))) sNx))) (sRet (eC (.bl true)))))))))))
/- _law_lengths: 0 _law_pen_here, 1 _law_many, 2 _law_way, 3 _law_most, 4 _law_found, 5 _law_at, 6 _law_rest, 7 _law_signed, 8 _law_bar, 9 _law_length -/
def B__law_lengths (K : PySem.W.Frag) : DS := (sSeq (sParSS 1 2 (eBin dAdd (eC (.int 3)) (eCallO' (sp__law_draw K) 0 (aCons (eC (.int 6)) aNil))) (eCallO' (sp__law_draw K) 0 (aCons (eC (.int 7)) aNil))) (sSeq (sSet 3 (eBin dIx (eLst (aCons (eC (.int 9)) (aCons (eC (.int 9)) (aCons (eC (.int 3)) (aCons (eC (.int 1000000)) (aCons (eC (.int 4)) (aCons (eC (.int 9)) (aCons (eC (.int 2)) aNil)))))))) (eV 2))) (sSeq (sSetO 4 (eLc (iR1 (eV 1)) [8] (gN 8) uYes (eBin dAdd (eC (.int 1)) (eCallO' (sp__law_draw K) 0 (aCons (eV 3) aNil))))) (sSeq (sSet 5 (eCallO' (sp__law_draw K) 0 (aCons (eV 1) aNil))) (sSeq (sSet 6 (eBin dSub (eUn dSum (eO 4)) (eIxO 4 (eV 5)))) (sSeq (sIf (tV (eBin (dEq false) (eV 2) (eC (.int 4)))) (sSub 4 (eBin dAdd (eV 6) (eCallO' (sp__law_draw K) 0 (aCons (eC (.int 3)) aNil))) (eV 5)) sNx) (sSeq (sIf (tV (eBin (dEq false) (eV 2) (eC (.int 5)))) (sSeq (sSet 7 (eUn dSum (eLcO 4 (enD 0) [8, 9] (gT [8, 9]) (tV (eBin (dEq true) (eV 8) (eO 5))) (eBin dMul (eV 9) (eBin dSub (eC (.int 1)) (eBin dMul (eC (.int 2)) (eCallO' (sp__law_draw K) 0 (aCons (eC (.int 2)) aNil)))))))) (sSub 4 (eBin dMax2 (eC (.int 1)) (eUn dAbs (eO 7))) (eV 5))) sNx) (sFz 4 (sRet (eV 4))))))))))
/- _law_pen: 0 _law_script, 1 _law_cell -/
def B__law_pen (K : PySem.W.Frag) : DE := (eLst (aCons (eLc (iLT (eSl dSlL (eV 0) oNo (oIs (eC (.int 60))))) [1] (gN 1) uYes (eUn dInt (eO 1))) (aCons (eC (.int 0)) (aCons (eC (.int 0)) aNil))))
/- Ring.as_one: 0 self, 1 bar, 2 both -/
def B_Ring_as_one (K : PySem.W.Frag) : DS := (sSeq (sEx (eCall (sp_need_bar K) (aCons (eV 0) (aCons (eV 1) aNil)))) (sSeq (sIf (tV (eBin (dEq false) (eV 1) (eBin dSub (eUn dLen (eUn (dFld (He.ga K "Ring") "lengths") (eO 0))) (eC (.int 1))))) (sRet (eMake (He.ga K "Ring") (sp_Ring_init K) (aCons (eLst (aCons (eBin dAdd (eBin dIx (eUn (dFld (He.ga K "Ring") "lengths") (eO 0)) (eV 1)) (eBin dIx (eUn (dFld (He.ga K "Ring") "lengths") (eO 0)) (eC (.int 0)))) (aStar (eSl dSlT (eUn (dFld (He.ga K "Ring") "lengths") (eO 0)) (oIs (eC (.int 1))) (oIs (eV 1))) aNil))) aNil))) sNx) (sSeq (sSet 2 (eBin dAdd (eBin dIx (eUn (dFld (He.ga K "Ring") "lengths") (eO 0)) (eV 1)) (eBin dIx (eUn (dFld (He.ga K "Ring") "lengths") (eO 0)) (eBin dAdd (eV 1) (eC (.int 1)))))) (sRet (eMake (He.ga K "Ring") (sp_Ring_init K) (aCons (eLst (aStar (eSl dSlT (eUn (dFld (He.ga K "Ring") "lengths") (eO 0)) oNo (oIs (eV 1))) (aCons (eV 2) (aStar (eSl dSlT (eUn (dFld (He.ga K "Ring") "lengths") (eO 0)) (oIs (eBin dAdd (eV 1) (eC (.int 2)))) oNo) aNil)))) aNil))))))
/- first_twice: 0 values, 1 seen, 2 value -/
def B_first_twice (K : PySem.W.Frag) : DS := (sSeq (sSetO 1 (eC (.dic []))) (sSeq (sFor (iLT (eV 0)) (gN 2) (sSeq (sIf (tV (eBin (dIn false) (eV 2) (eO 1))) (sRet (eV 2)) sNx) (sDput 1 (eC (.bl true)) (eV 2)))) (sRet (eC .non))))
/- need_lot_of: 0 many, 1 value, 2 part, 3 bar, 4 twice -/
def B_need_lot_of (K : PySem.W.Frag) : DS := (sSeq (sIf (uNot (tV (eCall (sp_is_numbers K) (aCons (eV 1) aNil)))) sNo sNx) (sSeq (sFor (iLT (eV 1)) (gN 3) (sIf (uNot (tV (eCall (sp_is_within K) (aCons (eV 3) (aCons (eC (.int 0)) (aCons (eBin dSub (eV 0) (eC (.int 1))) aNil)))))) sNo sNx)) (sSeq (sSet 4 (eCall (sp_first_twice K) (aCons (eV 1) aNil))) (sIf (tV (eBin (dIs true) (eV 4) (eC .non))) sNo sNx))))
/- need_lot: 0 ring, 1 value, 2 part -/
def B_need_lot (K : PySem.W.Frag) : DS := (sEx (eCall (sp_need_lot_of K) (aCons (eUn dLen (eUn (dFld (He.ga K "Ring") "lengths") (eO 0))) (aCons (eV 1) (aCons (eV 2) aNil)))))
/- Ring.length_of: 0 self, 1 lot, 2 bar -/
def B_Ring_length_of (K : PySem.W.Frag) : DS := (sSeq (sEx (eCall (sp_need_lot K) (aCons (eV 0) (aCons (eV 1) (aCons (eC (.str "lot")) aNil))))) (sRet (eUn dSum (eLc (iLT (eV 1)) [2] (gN 2) uYes (eBin dIx (eUn (dFld (He.ga K "Ring") "lengths") (eO 0)) (eV 2))))))
/- Ring.sort_of: 0 self, 1 lot -/
def B_Ring_sort_of (K : PySem.W.Frag) : DS := (sSeq (sEx (eCall (sp_need_lot K) (aCons (eV 0) (aCons (eV 1) (aCons (eC (.str "lot")) aNil))))) (sRet (eCall (sp_sort_in K) (aCons (eV 0) (aCons (eV 1) aNil)))))
/- _law_lots: 0 _law_many, 1 _law_found, 2 _law_bar, 3 _law_lot, 4 _law_size -/
def B__law_lots (K : PySem.W.Frag) : DS := (sSeq (sSet 1 (eLst (aCons (eTup aNil) aNil))) (sSeq (sFor (iR1 (eV 0)) (gN 2) (sSet 1 (eBin dAdd (eV 1) (eLc (iLT (eV 1)) [3] (gN 3) uYes (eBin dAdd (eV 3) (eTup (aCons (eV 2) aNil))))))) (sRet (eLc (iLT (eUn dSortP (eLc (iLT (eV 1)) [3] (gN 3) uYes (eTup (aCons (eUn dLen (eO 3)) (aCons (eV 3) aNil)))))) [4, 3] (gT [4, 3]) uYes (eV 3)))))
/- _law_sort: 0 _law_lengths_here, 1 _law_lot, 2 _law_mine, 3 _law_others, 4 _law_bar, 5 _law_length -/
def B__law_sort (K : PySem.W.Frag) : DS := (sSeq (sSet 2 (eUn dSum (eLc (iLT (eV 1)) [4] (gN 4) uYes (eBin dIx (eV 0) (eV 4))))) (sSeq (sSet 3 (eUn dSum (eLc (iE (eV 0)) [4, 5] (gT [4, 5]) (tV (eBin (dIn true) (eV 4) (eO 1))) (eV 5)))) (sSeq (sIf (tV (eBin (dEq false) (eV 2) (eO 3))) (sRet (eC (.str "level"))) sNx) (sRet (eIf (tV (eBin dLt (eV 2) (eV 3))) (eC (.str "short")) (eC (.str "long")))))))
/- _law_together_right: 0 _law_pen_here, 1 _law_lengths_here, 2 _law_ring, 3 _law_many, 4 _law_bar, 5 _law_news, 6 _law_new, 7 _law_lot, 8 _law_old, 9 _law_at -/
def B__law_together_right (K : PySem.W.Frag) : DS := (sSeq (sParSS 2 3 (eMake (He.ga K "Ring") (sp_Ring_init K) (aCons (eV 1) aNil)) (eUn dLen (eO 1))) (sSeq (sSet 4 (eCallO' (sp__law_draw K) 0 (aCons (eV 3) aNil))) (sSeq (sSetO 5 (eLc (iR1 (eV 3)) [9] (gN 9) uYes (eLst (aCons (eV 9) aNil)))) (sSeq (sSub 5 (eUn dSorted (eLst (aCons (eV 4) (aCons (eBin dMod (eUn dInt (eBin dAdd (eV 4) (eC (.int 1)))) (eV 3)) aNil)))) (eV 4)) (sSeq (sIf (tV (eBin (dEq false) (eV 4) (eBin dSub (eV 3) (eC (.int 1))))) (sFz 5 (sSet 5 (eBin dAdd (eLst (aCons (eBin dIx (eV 5) (eV 4)) aNil)) (eSl dSlL (eV 5) (oIs (eC (.int 1))) (oIs (eV 4)))))) (sEx (ePop 5 (eBin dAdd (eV 4) (eC (.int 1)))))) (sFq 5 (sSeq (sSet 6 (eMeth (He.ga K "Ring") "as_one" (sp_Ring_as_one K) (eV 2) (aCons (eV 4) aNil))) (sSeq (sFor (iLT (eCall (sp__law_lots K) (aCons (eBin dSub (eV 3) (eC (.int 1))) aNil))) (gN 7) (sSeq (sSetO 8 (eLst aNil)) (sSeq (sFor (iLT (eV 7)) (gN 9) (sExt 8 (eBin dIx (eV 5) (eV 9)))) (sFz 8 (sIf (uOr (tV (eBin (dEq true) (eMeth (He.ga K "Ring") "sort_of" (sp_Ring_sort_of K) (eV 6) (aCons (eV 7) aNil)) (eCall (sp__law_sort K) (aCons (eV 1) (aCons (eV 8) aNil))))) (tV (eBin (dEq true) (eMeth (He.ga K "Ring") "length_of" (sp_Ring_length_of K) (eV 6) (aCons (eV 7) aNil)) (eMeth (He.ga K "Ring") "length_of" (sp_Ring_length_of K) (eV 2) (aCons (eV 8) aNil))))) (sRet (eC (.bl false))) sNx))))) (sSeq (sIf (uOr (uAnd (tV (eBin (dIs false) (eUn (dFld (He.ga K "Ring") "closes") (eO 6)) (eC (.bl true)))) (tV (eBin (dIs false) (eUn (dFld (He.ga K "Ring") "closes") (eO 2)) (eC (.bl false))))) (uAnd (tV (eBin (dIs false) (eUn (dFld (He.ga K "Ring") "is_clear") (eO 2)) (eC (.bl true)))) (tV (eBin (dIs false) (eUn (dFld (He.ga K "Ring") "is_clear") (eO 6)) (eC (.bl false)))))) (sRet (eC (.bl false))) sNx) (sRet (eBin (dEq false) (eUn (dFld (He.ga K "Ring") "total") (eO 6)) (eUn (dFld (He.ga K "Ring") "total") (eO 2)))))))))))))
/- Ring.in_two: 0 self, 1 bar, 2 length -/
def B_Ring_in_two (K : PySem.W.Frag) : DS := (sSeq (sEx (eCall (sp_need_bar K) (aCons (eV 0) (aCons (eV 1) aNil)))) (sSeq (sIf (uNot (tV (eCall (sp_is_within K) (aCons (eV 2) (aCons (eC (.int 1)) (aCons (eBin dSub (eBin dIx (eUn (dFld (He.ga K "Ring") "lengths") (eO 0)) (eV 1)) (eC (.int 1))) aNil)))))) sNo sNx) (sRet (eMake (He.ga K "Ring") (sp_Ring_init K) (aCons (eLst (aStar (eSl dSlT (eUn (dFld (He.ga K "Ring") "lengths") (eO 0)) oNo (oIs (eV 1))) (aCons (eV 2) (aCons (eBin dSub (eBin dIx (eUn (dFld (He.ga K "Ring") "lengths") (eO 0)) (eV 1)) (eV 2)) (aStar (eSl dSlT (eUn (dFld (He.ga K "Ring") "lengths") (eO 0)) (oIs (eBin dAdd (eV 1) (eC (.int 1)))) oNo) aNil))))) aNil)))))
/- _law_pick: 0 _law_pen_here, 1 _law_some -/
def B__law_pick (K : PySem.W.Frag) : DS := (sRet (eBin dIx (eV 1) (eCallO' (sp__law_draw K) 0 (aCons (eUn dLen (eO 1)) aNil))))
/- _law_two_right: 0 _law_pen_here, 1 _law_lengths_here, 2 _law_ring, 3 _law_many, 4 _law_bar, 5 _law_new, 6 _law_lot, 7 _law_moved, 8 _law_at -/
def B__law_two_right (K : PySem.W.Frag) : DS := (sSeq (sParSS 2 3 (eMake (He.ga K "Ring") (sp_Ring_init K) (aCons (eV 1) aNil)) (eUn dLen (eO 1))) (sSeq (sSet 4 (eCallO' (sp__law_pick K) 0 (aCons (eLc (iR1 (eV 3)) [8] (gN 8) (tV (eBin dGt (eBin dIx (eV 1) (eV 8)) (eC (.int 1)))) (eV 8)) aNil))) (sSeq (sSet 5 (eMeth (He.ga K "Ring") "in_two" (sp_Ring_in_two K) (eV 2) (aCons (eV 4) (aCons (eBin dAdd (eC (.int 1)) (eCallO' (sp__law_draw K) 0 (aCons (eBin dSub (eBin dIx (eV 1) (eV 4)) (eC (.int 1))) aNil))) aNil)))) (sSeq (sFor (iLT (eCall (sp__law_lots K) (aCons (eV 3) aNil))) (gN 6) (sSeq (sSet 7 (eBin dAdd (eLc (iLT (eV 6)) [8] (gN 8) uYes (eBin dAdd (eV 8) (eUn dInt (eBin dGt (eV 8) (eV 4))))) (eIf (tV (eBin (dIn false) (eV 4) (eO 6))) (eLst (aCons (eBin dAdd (eV 4) (eC (.int 1))) aNil)) (eLst aNil)))) (sIf (uOr (tV (eBin (dEq true) (eMeth (He.ga K "Ring") "sort_of" (sp_Ring_sort_of K) (eV 5) (aCons (eV 7) aNil)) (eMeth (He.ga K "Ring") "sort_of" (sp_Ring_sort_of K) (eV 2) (aCons (eV 6) aNil)))) (tV (eBin (dEq true) (eMeth (He.ga K "Ring") "length_of" (sp_Ring_length_of K) (eV 5) (aCons (eV 7) aNil)) (eMeth (He.ga K "Ring") "length_of" (sp_Ring_length_of K) (eV 2) (aCons (eV 6) aNil))))) (sRet (eC (.bl false))) sNx))) (sRet (eOr (eBin (dIs false) (eUn (dFld (He.ga K "Ring") "closes") (eO 5)) (eC (.bl true))) (eBin (dIs false) (eUn (dFld (He.ga K "Ring") "closes") (eO 2)) (eC (.bl false)))))))))
/- law: 0 _law_script, 1 _law_pen_here, 2 _law_lap, 3 _law_lengths_here -/
def B_law (K : PySem.W.Frag) : DS := (sSeq (sSetO 1 (eCall (sp__law_pen K) (aCons (eV 0) aNil))) (sSeq (sFor (iR1 (eC (.int 2))) (gN 2) (sSeq (sSet 3 (eCallO' (sp__law_lengths K) 1 aNil)) (sSeq (sIf (uAnd (tV (eBin dGt (eUn dLen (eO 3)) (eC (.int 3)))) (uAnd (tV (eBin dLe (eUn dMax (eO 3)) (eC (.int 500000)))) (uNot (tV (eCallO' (sp__law_together_right K) 1 (aCons (eV 3) aNil)))))) (sRet (eC (.bl false))) sNx) (sSeq (sIf (uAnd (tV (eBin dLt (eUn dLen (eO 3)) (eC (.int 8)))) (uAnd (tV (eBin dGt (eUn dMax (eO 3)) (eC (.int 1)))) (uNot (tV (eCallO' (sp__law_two_right K) 1 (aCons (eV 3) aNil)))))) (sRet (eC (.bl false))) sNx) (sIf (uNot (tV (eCallO' (sp__law_anew_right K) 1 (aCons (eV 3) aNil)))) (sRet (eC (.bl false))) sNx))))) (sRet (eC (.bl true)))))
end KT

set_option Elab.async false
set_option linter.all false
set_option maxRecDepth 100000
set_option maxHeartbeats 4000000
/-! Tools for the pure part: data. -/
namespace DV
open PySem L2
section
/-! ### injectivity of data of ints -/
theorem map_int_inj : ∀ {ns ms : List Int}, ns.map D.int = ms.map D.int ↔ ns = ms
  | [], [] => by simp
  | [], _ :: _ => by simp
  | _ :: _, [] => by simp
  | n :: ns, m :: ms => by simp [map_int_inj (ns := ns) (ms := ms)]
theorem dSum_l {ns : List Int} {P : D → Prop} : dSum (.lst (ns.map D.int)) P ↔ P (.int ns.sum) := by
  unfold dSum
  constructor
  · rintro ⟨ms, h | h, p⟩
    · injection h with h; rw [map_int_inj.mp h]; exact p
    · cases h
  · exact fun p => ⟨ns, .inl rfl, p⟩
theorem dSum_t {ns : List Int} {P : D → Prop} : dSum (.tup (ns.map D.int)) P ↔ P (.int ns.sum) := by
  unfold dSum
  constructor
  · rintro ⟨ms, h | h, p⟩
    · cases h
    · injection h with h; rw [map_int_inj.mp h]; exact p
  · exact fun p => ⟨ns, .inr rfl, p⟩
theorem map_bl_inj : ∀ {ns ms : List Bool}, ns.map D.bl = ms.map D.bl ↔ ns = ms
  | [], [] => by simp
  | [], _ :: _ => by simp
  | _ :: _, [] => by simp
  | n :: ns, m :: ms => by simp [map_bl_inj (ns := ns) (ms := ms)]
theorem dAll_l {bs : List Bool} {P : D → Prop} : dAll (.lst (bs.map D.bl)) P ↔ P (.bl (bs.all _root_.id)) := by
  unfold dAll
  constructor
  · rintro ⟨ms, h, p⟩
    injection h with h; rw [map_bl_inj.mp h]; exact p
  · exact fun p => ⟨bs, rfl, p⟩
theorem dAny_l {bs : List Bool} {P : D → Prop} : dAny (.lst (bs.map D.bl)) P ↔ P (.bl (bs.any _root_.id)) := by
  unfold dAny
  constructor
  · rintro ⟨ms, h, p⟩
    injection h with h; rw [map_bl_inj.mp h]; exact p
  · exact fun p => ⟨bs, rfl, p⟩
theorem atI_map {α β : Type} (f : α → β) (l : List α) (i : Int) : atI (l.map f) i = (atI l i).map f := by
  unfold atI
  rw [List.length_map]
  cases ixN l.length i with
  | none => rfl
  | some j => show (l.map f)[j]? = (l[j]?).map f; rw [List.getElem?_map]
theorem atI_nat {α : Type} (l : List α) (i : Nat) (h : i < l.length) : atI l (i : Int) = some l[i] := by
  unfold atI ixN
  rw [if_pos (by omega), if_pos (by omega)]
  show l[(i : Int).toNat]? = _
  rw [Int.toNat_natCast, List.getElem?_eq_getElem h]
/-! ### pure blocks -/
theorem blank_length (ρ : En) : ∀ vs : List Nat, (blank ρ vs).length = ρ.length
  | [] => rfl
  | i :: is => by show ((blank ρ is).set i .e).length = _; rw [List.length_set, blank_length ρ is]
theorem back_blank {ρ : En} : ∀ {vs : List Nat}, back ρ (blank ρ vs) vs = ρ := by
  intro vs
  apply List.ext_getElem?; intro i
  by_cases c : i ∈ vs
  · by_cases h : i < ρ.length
    · rw [back_own c (by rw [blank_length]; exact h)]
      rw [List.getElem?_eq_getElem h]
    · rw [List.getElem?_eq_none (by rw [back_length, blank_length]; omega), List.getElem?_eq_none (by omega)]
  · rw [back_other c, blank_other c]
/-- a block that leaves the other slots alone: its items xs (as g), each in the frame e x; the tests c, the values h -/
theorem lcD_p {α : Type} {vs : List Nat} {G : DG} {T : DT} {A : DE} {ρ : En} {R : XP} {g : α → D} {e : α → En} {c : α → Bool} {h : α → D} {P : List D → En → Prop} : ∀ {xs : List α} {acc : List D},
    (∀ x ∈ xs, ∀ Q : En → Prop, Q (e x) → G (g x) ρ Q) → (∀ x ∈ xs, blank (e x) vs = ρ) → (∀ x ∈ xs, ∀ Q : Bool → En → Prop, Q (c x) (e x) → T (e x) Q R) → (∀ x ∈ xs, c x = true → ∀ Q : D → En → Prop, Q (h x) (e x) → A (e x) Q R) →
    acc.length + xs.length ≤ sizeLine → P (acc ++ (xs.filter c).map h) ρ → lcD vs G T A (xs.map g) acc ρ P R
  | [], acc, _, _, _, _, _, p => by simpa [lcD] using p
  | x :: xs, acc, hG, hb, hT, hA, hl, p => by
    show G (g x) ρ _
    refine hG x List.mem_cons_self _ ?_
    refine hT x List.mem_cons_self _ ?_
    have hl' : acc.length + (xs.length + 1) ≤ sizeLine := by simpa using hl
    cases q : c x with
    | true =>
      rw [if_pos rfl]
      refine hA x List.mem_cons_self q _ ⟨by omega, ?_⟩
      rw [hb x List.mem_cons_self]
      refine lcD_p (fun y hy => hG y (List.mem_cons_of_mem _ hy)) (fun y hy => hb y (List.mem_cons_of_mem _ hy)) (fun y hy => hT y (List.mem_cons_of_mem _ hy)) (fun y hy => hA y (List.mem_cons_of_mem _ hy)) (by simp; omega) ?_
      rw [List.filter_cons_of_pos q, List.map_cons] at p
      simpa using p
    | false =>
      rw [if_neg Bool.false_ne_true]
      rw [hb x List.mem_cons_self]
      refine lcD_p (fun y hy => hG y (List.mem_cons_of_mem _ hy)) (fun y hy => hb y (List.mem_cons_of_mem _ hy)) (fun y hy => hT y (List.mem_cons_of_mem _ hy)) (fun y hy => hA y (List.mem_cons_of_mem _ hy)) (by omega) ?_
      rw [List.filter_cons_of_neg (by rw [q]; exact Bool.false_ne_true)] at p
      exact p
theorem eLc_p {α : Type} {Ii : DI} {vs : List Nat} {G : DG} {T : DT} {A : DE} {ρ : En} {R : XP} {P : D → En → Prop} (xs : List α) (g : α → D) (e : α → En) (c : α → Bool) (h : α → D)
    (hI : ∀ Q : List D → En → Prop, Q (xs.map g) ρ → Ii ρ Q R) (hq : quiet ρ vs) (hG : ∀ x ∈ xs, ∀ Q : En → Prop, Q (e x) → G (g x) (blank ρ vs) Q) (hb : ∀ x ∈ xs, blank (e x) vs = blank ρ vs)
    (hT : ∀ x ∈ xs, ∀ Q : Bool → En → Prop, Q (c x) (e x) → T (e x) Q noR) (hA : ∀ x ∈ xs, c x = true → ∀ Q : D → En → Prop, Q (h x) (e x) → A (e x) Q noR) (hl : xs.length ≤ sizeLine) (p : P (.lst ((xs.filter c).map h)) ρ) : eLc Ii vs G T A ρ P R := by
  refine hI _ ⟨hq, lcD_p hG hb hT hA (by simpa using hl) ?_⟩
  show P _ (back ρ (blank ρ vs) vs)
  rw [back_blank]
  simpa using p
/-- .. without a test -/
theorem eLc_p1 {α : Type} {Ii : DI} {vs : List Nat} {G : DG} {A : DE} {ρ : En} {R : XP} {P : D → En → Prop} (xs : List α) (g : α → D) (e : α → En) (h : α → D)
    (hI : ∀ Q : List D → En → Prop, Q (xs.map g) ρ → Ii ρ Q R) (hq : quiet ρ vs) (hG : ∀ x ∈ xs, ∀ Q : En → Prop, Q (e x) → G (g x) (blank ρ vs) Q) (hb : ∀ x ∈ xs, blank (e x) vs = blank ρ vs)
    (hA : ∀ x ∈ xs, ∀ Q : D → En → Prop, Q (h x) (e x) → A (e x) Q noR) (hl : xs.length ≤ sizeLine) (p : P (.lst (xs.map h)) ρ) : eLc Ii vs G uYes A ρ P R :=
  eLc_p xs g e (fun _ => true) h hI hq hG hb (fun _ _ _ q => q) (fun x hx _ => hA x hx) hl (by rw [List.filter_eq_self.mpr fun _ _ => rfl]; exact p)
/-- a loop: an invariant of what is left -/
theorem forD_ind {α : Type} {G : DG} {S : DS} {g : α → D} {P : DV.Pn} (Iv : List α → En → Prop) (h0 : ∀ ρ, Iv [] ρ → P.nx ρ)
    (hs : ∀ (x : α) (xs : List α) (ρ : En), Iv (x :: xs) ρ → ∀ F : En → Prop, (∀ ρ2, Iv xs ρ2 → F ρ2) → G (g x) ρ fun ρ1 => S ρ1 { P with nx := F, ct := F, bk := P.nx }) : ∀ {xs : List α} {ρ : En}, Iv xs ρ → forD G S (xs.map g) ρ P
  | [], ρ, h => h0 ρ h
  | x :: xs, ρ, h => hs x xs ρ h _ fun ρ2 h2 => forD_ind Iv h0 hs h2
end
end DV

set_option Elab.async false
set_option linter.all false
set_option maxRecDepth 100000
set_option maxHeartbeats 4000000
/-! The pure part: checks. -/
namespace KT
open PySem L2 DV
/-! ### isinstance -/
theorem kit_ii {K : PySem.W.Frag} : PySem.W.kitOne K (.type "int") (.type "int") = some true := kit_ty (by decide +kernel)
theorem kit_ib {K : PySem.W.Frag} : PySem.W.kitOne K (.type "int") (.type "bool") = some false := kit_ty (by decide +kernel)
theorem kit_ll {K : PySem.W.Frag} : PySem.W.kitOne K (.type "list") (.type "list") = some true := kit_ty (by decide +kernel)
theorem kit_tl {K : PySem.W.Frag} : PySem.W.kitOne K (.type "tuple") (.type "list") = some false := kit_ty (by decide +kernel)
theorem kit_tt {K : PySem.W.Frag} : PySem.W.kitOne K (.type "tuple") (.type "tuple") = some true := kit_ty (by decide +kernel)
theorem isi_ii {K : PySem.W.Frag} {n : Int} {P : D → Prop} (h : P (.bl true)) : dIsi K (.int n) (.ty "int") P := ⟨fun _ _ e => (by cases e), _, true, rfl, h, .inl ⟨_, rfl, kit_ii⟩⟩
theorem isi_ib {K : PySem.W.Frag} {n : Int} {P : D → Prop} (h : P (.bl false)) : dIsi K (.int n) (.ty "bool") P := ⟨fun _ _ e => (by cases e), _, false, rfl, h, .inl ⟨_, rfl, kit_ib⟩⟩
theorem isi_lt {K : PySem.W.Frag} {d : D} {ns : List Int} (hd : seqD d ns) {P : D → Prop} (h : P (.bl true)) : dIsiT K [.type "list", .type "tuple"] d P := by
  rcases hd with rfl | rfl
  · exact ⟨fun _ _ e => (by cases e), _, true, rfl, h, kitAny_cons kit_ll (fun q => by cases q) fun _ => rfl⟩
  · exact ⟨fun _ _ e => (by cases e), _, true, rfl, h, kitAny_cons kit_tl (fun _ => kitAny_cons kit_tt (fun q => by cases q) fun _ => rfl) fun q => by cases q⟩
theorem isi_ring {K : PySem.W.Frag} (I : IsC K (He.ga K "Ring")) {fs : List (Str × D)} {P : D → Prop} (h : P (.bl true)) : dIsi K (.obj (He.ga K "Ring") fs) (.glb (He.ga K "Ring")) P :=
  ⟨fun _ _ e => (by cases e; exact I), _, true, rfl, h, .inl ⟨_, rfl, if_pos (beq_self_eq_true _)⟩⟩
theorem iLT_of {A : DE} {ρ : En} {R : XP} {P : List D → En → Prop} {d : D} {ns : List Int} (hd : seqD d ns) (hA : ∀ Q : D → En → Prop, Q d ρ → A ρ Q R) (p : P (ns.map D.int) ρ) : iLT A ρ P R := by
  refine hA _ ?_
  rcases hd with rfl | rfl
  · exact ⟨_, .inl rfl, p⟩
  · exact ⟨_, .inr rfl, p⟩
theorem len_of {d : D} {ns : List Int} (hd : seqD d ns) {P : D → Prop} (p : P (.int ns.length)) : dLen d P := by
  rcases hd with rfl | rfl <;> simpa [dLen] using p

theorem len_is_integer (K : PySem.W.Frag) : ∀ ds P R, sp_is_integer K ds P R → ds.length = 1 := fun _ _ _ ⟨_, e, _⟩ => by rw [e]; rfl
theorem pu_is_integer (K : PySem.W.Frag) : ∀ ds (Po : D → D → Prop) (R : DX → D → Prop), sp_is_integer K ds Po R → B_is_integer K (en0 ["value"] ds) { nx := fun _ => Po .non .non, rt := fun d _ => Po d .non, xe := fun y _ => R y .non } := by
  rintro ds Po R ⟨n, rfl, p⟩
  refine ⟨_, rfl, isi_ii ⟨true, rfl, ?_⟩⟩
  rw [if_pos rfl]
  exact ⟨_, rfl, isi_ib ⟨false, rfl, p⟩⟩
theorem len_is_within (K : PySem.W.Frag) : ∀ ds P R, sp_is_within K ds P R → ds.length = 3 := fun _ _ _ ⟨_, _, _, e, _⟩ => by rw [e]; rfl
theorem pu_is_within (K : PySem.W.Frag) : ∀ ds (Po : D → D → Prop) (R : DX → D → Prop), sp_is_within K ds Po R → B_is_within K (en0 ["value", "least", "most"] ds) { nx := fun _ => Po .non .non, rt := fun d _ => Po d .non, xe := fun y _ => R y .non } := by
  rintro ds Po R ⟨v, lo, hi, rfl, p⟩
  simp only [B_is_within, sp_is_integer, sSeq, sIf, sFor, sSet, sSetO, sRet, sRetN, sNx, sNo, sEx, sFz, sFq, sFldS, sSub, sApp, sExt, sDput, sDupd, sAsg, sParSS, sParSO, sParOS, sParOO, eV, eO, eC, eBin, eUn, eCall, eCallO', eCallO, eMake, eMeth, eCallR, eIf, eNot, eAnd, eOr, eTup, eLst, eIxO, ePop, eIndex, eD1, eSl, oNo, oIs, aNil, aCons, aStar, tV, uNot, uAnd, uOr, uYes, dI, dIs, DV.isNon, dLen, dInt, dAbs, dTuple, dNeg, dMax2, dMin2, gN, gT, gsN, ownD, putO, putFD, en0, en1, own0, List.map_cons, List.map_nil, List.replicate, List.cons.injEq, Nat.sub_self, Nat.reduceSub, Nat.reduceAdd, Bool.not_true, Bool.not_false,  List.length_cons, List.length_nil, List.getElem?_cons_zero, List.getElem?_cons_succ, List.set_cons_zero, List.set_cons_succ, List.cons_append, List.nil_append, Option.some.injEq, Sl.s.injEq, Sl.o.injEq, Sl.m.injEq, reduceCtorEq, D.int.injEq, D.bl.injEq, D.lst.injEq, D.tup.injEq, D.str.injEq, D.dic.injEq, D.obj.injEq, bne_self_eq_false, Bool.bne_true, Bool.bne_false, ite_true, ite_false, exists_eq_left', exists_eq_left, exists_eq_right, exists_eq', exists_and_left, exists_const, or_false, false_or, and_true, true_and, and_false, false_and, if_true, if_false, Bool.false_eq_true]
  by_cases h : v < lo
  · have e : decide (lo ≤ v) = false := decide_eq_false (by omega)
    rw [e] at p
    simpa [h, DV.isNon] using p
  · have e : decide (lo ≤ v) = true := decide_eq_true (by omega)
    rw [e] at p
    simpa [h, DV.isNon] using p
end KT

set_option Elab.async false
set_option linter.all false
set_option maxRecDepth 100000
set_option maxHeartbeats 4000000
/-! The pure part: checks of lists. -/
namespace KT
open PySem L2 DV
theorem sz {n : Nat} (h : n ≤ 100000) : n ≤ sizeLine := Nat.le_trans h (by decide)
theorem seqD.len {d : D} {ns : List Int} (h : seqD d ns) : True := trivial
theorem len_are_lengths (K : PySem.W.Frag) : ∀ ds P R, sp_are_lengths K ds P R → ds.length = 1 := fun _ _ _ ⟨_, _, e, _⟩ => by rw [e]; rfl
theorem pu_are_lengths (K : PySem.W.Frag) : ∀ ds (Po : D → D → Prop) (R : DX → D → Prop), sp_are_lengths K ds Po R → B_are_lengths K (en0 ["value", "length"] ds) { nx := fun _ => Po .non .non, rt := fun d _ => Po d .non, xe := fun y _ => R y .non } := by
  rintro ds Po R ⟨d, ns, rfl, hd, hl, p⟩
  refine ⟨_, rfl, isi_lt hd ⟨true, rfl, ?_⟩⟩
  rw [if_pos rfl]
  refine eLc_p1 ns D.int (fun x => [.s d, .s (.int x)]) (fun x => D.bl (decide (1 ≤ x) && decide (x ≤ 1000000))) (fun Q q => iLT_of hd (fun Q q => ⟨_, rfl, q⟩) q) (by simp [quiet, en0]) (fun x _ Q q => q) (fun _ _ => rfl) (fun x _ Q q => ?_) (sz (by omega)) ?_
  · simp only [sSeq, sIf, sFor, sSet, sSetO, sRet, sRetN, sNx, sNo, sEx, sFz, sFq, sFldS, sSub, sApp, sExt, sDput, sDupd, sAsg, sParSS, sParSO, sParOS, sParOO, eV, eO, eC, eBin, eUn, eCall, eCallO', eCallO, eMake, eMeth, eCallR, eIf, eNot, eAnd, eOr, eTup, eLst, eIxO, ePop, eIndex, eD1, eSl, oNo, oIs, aNil, aCons, aStar, tV, uNot, uAnd, uOr, uYes, dI, dIs, DV.isNon, dLen, dInt, dAbs, dTuple, dNeg, dMax2, dMin2, gN, gT, gsN, ownD, putO, putFD, en0, en1, own0, List.map_cons, List.map_nil, List.replicate, List.cons.injEq, Nat.sub_self, Nat.reduceSub, Nat.reduceAdd, Bool.not_true, Bool.not_false,  List.length_cons, List.length_nil, List.getElem?_cons_zero, List.getElem?_cons_succ, List.set_cons_zero, List.set_cons_succ, List.cons_append, List.nil_append, Option.some.injEq, Sl.s.injEq, Sl.o.injEq, Sl.m.injEq, reduceCtorEq, D.int.injEq, D.bl.injEq, D.lst.injEq, D.tup.injEq, D.str.injEq, D.dic.injEq, D.obj.injEq, bne_self_eq_false, Bool.bne_true, Bool.bne_false, ite_true, ite_false, exists_eq_left', exists_eq_left, exists_eq_right, exists_eq', exists_and_left, exists_const, or_false, false_or, and_true, true_and, and_false, false_and, if_true, if_false, Bool.false_eq_true]
    exact ⟨x, 1, 1000000, rfl, q⟩
  · have : (ns.map fun x => D.bl (decide (1 ≤ x) && decide (x ≤ 1000000))) = (ns.map fun x => decide (1 ≤ x) && decide (x ≤ 1000000)).map D.bl := by rw [List.map_map]; rfl
    rw [this, dAll_l, List.all_map]
    exact p
theorem len_is_numbers (K : PySem.W.Frag) : ∀ ds P R, sp_is_numbers K ds P R → ds.length = 1 := fun _ _ _ ⟨_, _, e, _⟩ => by rw [e]; rfl
theorem pu_is_numbers (K : PySem.W.Frag) : ∀ ds (Po : D → D → Prop) (R : DX → D → Prop), sp_is_numbers K ds Po R → B_is_numbers K (en0 ["value", "part"] ds) { nx := fun _ => Po .non .non, rt := fun d _ => Po d .non, xe := fun y _ => R y .non } := by
  rintro ds Po R ⟨d, ns, rfl, hd, hl, p⟩
  refine ⟨_, rfl, isi_lt hd ⟨true, rfl, ?_⟩⟩
  rw [if_pos rfl]
  refine eLc_p1 ns D.int (fun x => [.s d, .s (.int x)]) (fun x => D.bl true) (fun Q q => iLT_of hd (fun Q q => ⟨_, rfl, q⟩) q) (by simp [quiet, en0]) (fun x _ Q q => q) (fun _ _ => rfl) (fun x _ Q q => ?_) (sz (by omega)) ?_
  · exact ⟨_, rfl, ⟨x, rfl, q⟩⟩
  · have : (ns.map fun _ => D.bl true) = (ns.map fun _ => true).map D.bl := by rw [List.map_map]; rfl
    rw [this, dAll_l, List.all_map]
    have e : ns.all (_root_.id ∘ fun _ => true) = true := List.all_eq_true.mpr fun _ _ => rfl
    rw [e]
    exact p
theorem ring_len {K : PySem.W.Frag} {L : List Int} {P : D → Prop} (p : P (.int L.length)) : dFld (He.ga K "Ring") "lengths" (ringD K L) fun z => dLen z P :=
  ⟨_, dt L, rfl, rfl, by simpa [dLen] using p⟩
theorem len_need_bar (K : PySem.W.Frag) : ∀ ds P R, sp_need_bar K ds P R → ds.length = 2 := fun _ _ _ ⟨_, _, e, _⟩ => by rw [e]; rfl
theorem pu_need_bar (K : PySem.W.Frag) : ∀ ds (Po : D → D → Prop) (R : DX → D → Prop), sp_need_bar K ds Po R → B_need_bar K (en0 ["ring", "value"] ds) { nx := fun _ => Po .non .non, rt := fun d _ => Po d .non, xe := fun y _ => R y .non } := by
  rintro ds Po R ⟨L, b, rfl, ok, h0, h1, p⟩
  refine ⟨_, rfl, ⟨ringD K L, .inl rfl, ring_len (K := K) ⟨trivial, ⟨b, 0, L.length - 1, rfl, ?_⟩⟩⟩⟩
  refine ⟨_, rfl, ?_⟩
  have e : (decide ((0 : Int) ≤ b) && decide (b ≤ (L.length : Int) - 1)) = true := by simp; omega
  rw [e]
  exact p
theorem len_need_ring (K : PySem.W.Frag) : ∀ ds P R, sp_need_ring K ds P R → ds.length = 2 := fun _ _ _ ⟨_, _, e, _⟩ => by rw [e]; rfl
theorem pu_need_ring (K : PySem.W.Frag) (I : IsC K (He.ga K "Ring")) : ∀ ds (Po : D → D → Prop) (R : DX → D → Prop), sp_need_ring K ds Po R → B_need_ring K (en0 ["value", "part"] ds) { nx := fun _ => Po .non .non, rt := fun d _ => Po d .non, xe := fun y _ => R y .non } := by
  rintro ds Po R ⟨L, s, rfl, p⟩
  exact ⟨_, rfl, isi_ring I ⟨true, rfl, p⟩⟩
theorem len_need_lot (K : PySem.W.Frag) : ∀ ds P R, sp_need_lot K ds P R → ds.length = 3 := fun _ _ _ ⟨_, _, _, _, e, _⟩ => by rw [e]; rfl
theorem pu_need_lot (K : PySem.W.Frag) : ∀ ds (Po : D → D → Prop) (R : DX → D → Prop), sp_need_lot K ds Po R → B_need_lot K (en0 ["ring", "value", "part"] ds) { nx := fun _ => Po .non .non, rt := fun d _ => Po d .non, xe := fun y _ => R y .non } := by
  rintro ds Po R ⟨L, lot, d, s, rfl, hd, ok, hl, p⟩
  exact ⟨ringD K L, .inl rfl, ring_len (K := K) ⟨d, rfl, .str s, rfl, ⟨L.length, lot, d, s, rfl, hd, ok, hl, p⟩⟩⟩
theorem len_first_twice (K : PySem.W.Frag) : ∀ ds P R, sp_first_twice K ds P R → ds.length = 1 := fun _ _ _ ⟨_, _, e, _⟩ => by rw [e]; rfl
theorem putD_any {kds : List (Key × D)} {k : Key} {d : D} (p : Key → Bool) : ((putD kds k d).any fun q => p q.1) = ((kds.any fun q => p q.1) || p k) := by
  unfold putD
  by_cases h : (kds.any fun q => decide (q.1 = k)) = true
  · rw [if_pos h]
    have e : ((kds.map fun q => if q.1 = k then (q.1, d) else q).any fun q => p q.1) = kds.any fun q => p q.1 := by
      rw [List.any_map]
      congr 1
      funext q
      show p (if q.1 = k then (q.1, d) else q).1 = p q.1
      split <;> rfl
    rw [e]
    obtain ⟨q, hq, hk⟩ := List.any_eq_true.mp h
    have hk := of_decide_eq_true hk
    cases hp : p k with
    | false => simp
    | true =>
      have : (kds.any fun q => p q.1) = true := List.any_eq_true.mpr ⟨q, hq, by rw [hk]; exact hp⟩
      rw [this]; rfl
  · rw [if_neg h]; simp
theorem putD_len {kds : List (Key × D)} {k : Key} {d : D} : (putD kds k d).length ≤ kds.length + 1 := by
  unfold putD
  split <;> simp
theorem pu_first_twice (K : PySem.W.Frag) : ∀ ds (Po : D → D → Prop) (R : DX → D → Prop), sp_first_twice K ds Po R → B_first_twice K (en0 ["values", "seen", "value"] ds) { nx := fun _ => Po .non .non, rt := fun d _ => Po d .non, xe := fun y _ => R y .non } := by
  rintro ds Po R ⟨d, ns, rfl, hd, nd, hl, p⟩
  simp only [B_first_twice, sSeq, sIf, sFor, sSet, sSetO, sRet, sRetN, sNx, sNo, sEx, sFz, sFq, sFldS, sSub, sApp, sExt, sDput, sDupd, sAsg, sParSS, sParSO, sParOS, sParOO, eV, eO, eC, eBin, eUn, eCall, eCallO', eCallO, eMake, eMeth, eCallR, eIf, eNot, eAnd, eOr, eTup, eLst, eIxO, ePop, eIndex, eD1, eSl, oNo, oIs, aNil, aCons, aStar, tV, uNot, uAnd, uOr, uYes, dI, dIs, DV.isNon, dLen, dInt, dAbs, dTuple, dNeg, dMax2, dMin2, gN, gT, gsN, ownD, putO, putFD, en0, en1, own0, List.map_cons, List.map_nil, List.replicate, List.cons.injEq, Nat.sub_self, Nat.reduceSub, Nat.reduceAdd, Bool.not_true, Bool.not_false,  List.length_cons, List.length_nil, List.getElem?_cons_zero, List.getElem?_cons_succ, List.set_cons_zero, List.set_cons_succ, List.cons_append, List.nil_append, Option.some.injEq, Sl.s.injEq, Sl.o.injEq, Sl.m.injEq, reduceCtorEq, D.int.injEq, D.bl.injEq, D.lst.injEq, D.tup.injEq, D.str.injEq, D.dic.injEq, D.obj.injEq, bne_self_eq_false, Bool.bne_true, Bool.bne_false, ite_true, ite_false, exists_eq_left', exists_eq_left, exists_eq_right, exists_eq', exists_and_left, exists_const, or_false, false_or, and_true, true_and, and_false, false_and, if_true, if_false, Bool.false_eq_true]
  refine iLT_of hd (fun Q q => ⟨_, rfl, q⟩) ?_
  refine forD_ind (fun xs ρ => ∃ (kds : List (Key × D)) (z : Sl), ρ = [.s d, .o (.dic kds), z] ∧ xs.Nodup ∧ kds.length + xs.length ≤ 1000 ∧ ∀ x ∈ xs, (kds.any fun q => decide (q.1 = .inl x)) = false) (fun ρ _ => p) ?_ ⟨[], .e, rfl, nd, by simpa using hl, fun _ _ => rfl⟩
  rintro x xs ρ ⟨kds, z, rfl, nd, hl, hk⟩ F hF
  have hx := hk x List.mem_cons_self
  simp only [sSeq, sIf, sFor, sSet, sSetO, sRet, sRetN, sNx, sNo, sEx, sFz, sFq, sFldS, sSub, sApp, sExt, sDput, sDupd, sAsg, sParSS, sParSO, sParOS, sParOO, eV, eO, eC, eBin, eUn, eCall, eCallO', eCallO, eMake, eMeth, eCallR, eIf, eNot, eAnd, eOr, eTup, eLst, eIxO, ePop, eIndex, eD1, eSl, oNo, oIs, aNil, aCons, aStar, tV, uNot, uAnd, uOr, uYes, dI, dIs, DV.isNon, dLen, dInt, dAbs, dTuple, dNeg, dMax2, dMin2, gN, gT, gsN, ownD, putO, putFD, en0, en1, own0, List.map_cons, List.map_nil, List.replicate, List.cons.injEq, Nat.sub_self, Nat.reduceSub, Nat.reduceAdd, Bool.not_true, Bool.not_false,  List.length_cons, List.length_nil, List.getElem?_cons_zero, List.getElem?_cons_succ, List.set_cons_zero, List.set_cons_succ, List.cons_append, List.nil_append, Option.some.injEq, Sl.s.injEq, Sl.o.injEq, Sl.m.injEq, reduceCtorEq, D.int.injEq, D.bl.injEq, D.lst.injEq, D.tup.injEq, D.str.injEq, D.dic.injEq, D.obj.injEq, bne_self_eq_false, Bool.bne_true, Bool.bne_false, ite_true, ite_false, exists_eq_left', exists_eq_left, exists_eq_right, exists_eq', exists_and_left, exists_const, or_false, false_or, and_true, true_and, and_false, false_and, if_true, if_false, Bool.false_eq_true, dIn, keyOf, hx, Bool.bne_false]
  refine ⟨by simp at hl; exact Nat.lt_of_lt_of_le (by omega : kds.length < 100000) (by decide), hF _ ⟨_, _, rfl, (List.nodup_cons.mp nd).2, ?_, fun y hy => ?_⟩⟩
  · have := putD_len (kds := kds) (k := .inl x) (d := .bl true)
    simp at hl; omega
  · rw [putD_any (fun k => decide (k = .inl y)), hk y (List.mem_cons_of_mem _ hy)]
    have : x ≠ y := fun e => (List.nodup_cons.mp nd).1 (by rw [e]; exact hy)
    simp [this]
theorem len_need_lot_of (K : PySem.W.Frag) : ∀ ds P R, sp_need_lot_of K ds P R → ds.length = 3 := fun _ _ _ ⟨_, _, _, _, e, _⟩ => by rw [e]; rfl
theorem pu_need_lot_of (K : PySem.W.Frag) : ∀ ds (Po : D → D → Prop) (R : DX → D → Prop), sp_need_lot_of K ds Po R → B_need_lot_of K (en0 ["many", "value", "part", "bar", "twice"] ds) { nx := fun _ => Po .non .non, rt := fun d _ => Po d .non, xe := fun y _ => R y .non } := by
  rintro ds Po R ⟨n, lot, d, s, rfl, hd, ok, hl, p⟩
  simp only [B_need_lot_of, sSeq, sIf, sFor, sSet, sSetO, sRet, sRetN, sNx, sNo, sEx, sFz, sFq, sFldS, sSub, sApp, sExt, sDput, sDupd, sAsg, sParSS, sParSO, sParOS, sParOO, eV, eO, eC, eBin, eUn, eCall, eCallO', eCallO, eMake, eMeth, eCallR, eIf, eNot, eAnd, eOr, eTup, eLst, eIxO, ePop, eIndex, eD1, eSl, oNo, oIs, aNil, aCons, aStar, tV, uNot, uAnd, uOr, uYes, dI, dIs, DV.isNon, dLen, dInt, dAbs, dTuple, dNeg, dMax2, dMin2, gN, gT, gsN, ownD, putO, putFD, en0, en1, own0, List.map_cons, List.map_nil, List.replicate, List.cons.injEq, Nat.sub_self, Nat.reduceSub, Nat.reduceAdd, Bool.not_true, Bool.not_false,  List.length_cons, List.length_nil, List.getElem?_cons_zero, List.getElem?_cons_succ, List.set_cons_zero, List.set_cons_succ, List.cons_append, List.nil_append, Option.some.injEq, Sl.s.injEq, Sl.o.injEq, Sl.m.injEq, reduceCtorEq, D.int.injEq, D.bl.injEq, D.lst.injEq, D.tup.injEq, D.str.injEq, D.dic.injEq, D.obj.injEq, bne_self_eq_false, Bool.bne_true, Bool.bne_false, ite_true, ite_false, exists_eq_left', exists_eq_left, exists_eq_right, exists_eq', exists_and_left, exists_const, or_false, false_or, and_true, true_and, and_false, false_and, if_true, if_false, Bool.false_eq_true]
  refine ⟨d, lot, rfl, hd, hl, true, rfl, ?_⟩
  simp only [sSeq, sIf, sFor, sSet, sSetO, sRet, sRetN, sNx, sNo, sEx, sFz, sFq, sFldS, sSub, sApp, sExt, sDput, sDupd, sAsg, sParSS, sParSO, sParOS, sParOO, eV, eO, eC, eBin, eUn, eCall, eCallO', eCallO, eMake, eMeth, eCallR, eIf, eNot, eAnd, eOr, eTup, eLst, eIxO, ePop, eIndex, eD1, eSl, oNo, oIs, aNil, aCons, aStar, tV, uNot, uAnd, uOr, uYes, dI, dIs, DV.isNon, dLen, dInt, dAbs, dTuple, dNeg, dMax2, dMin2, gN, gT, gsN, ownD, putO, putFD, en0, en1, own0, List.map_cons, List.map_nil, List.replicate, List.cons.injEq, Nat.sub_self, Nat.reduceSub, Nat.reduceAdd, Bool.not_true, Bool.not_false,  List.length_cons, List.length_nil, List.getElem?_cons_zero, List.getElem?_cons_succ, List.set_cons_zero, List.set_cons_succ, List.cons_append, List.nil_append, Option.some.injEq, Sl.s.injEq, Sl.o.injEq, Sl.m.injEq, reduceCtorEq, D.int.injEq, D.bl.injEq, D.lst.injEq, D.tup.injEq, D.str.injEq, D.dic.injEq, D.obj.injEq, bne_self_eq_false, Bool.bne_true, Bool.bne_false, ite_true, ite_false, exists_eq_left', exists_eq_left, exists_eq_right, exists_eq', exists_and_left, exists_const, or_false, false_or, and_true, true_and, and_false, false_and, if_true, if_false, Bool.false_eq_true]
  refine iLT_of hd (fun Q q => ⟨_, rfl, q⟩) ?_
  refine forD_ind (fun xs ρ => ∃ z : Sl, ρ = [.s (.int n), .s d, .s (.str s), z, .e] ∧ ∀ x ∈ xs, 0 ≤ x ∧ x < (n : Int)) (fun ρ ⟨z, e, _⟩ => ?_) ?_ ⟨.e, rfl, ok.2⟩
  · subst e
    simp only [sSeq, sIf, sFor, sSet, sSetO, sRet, sRetN, sNx, sNo, sEx, sFz, sFq, sFldS, sSub, sApp, sExt, sDput, sDupd, sAsg, sParSS, sParSO, sParOS, sParOO, eV, eO, eC, eBin, eUn, eCall, eCallO', eCallO, eMake, eMeth, eCallR, eIf, eNot, eAnd, eOr, eTup, eLst, eIxO, ePop, eIndex, eD1, eSl, oNo, oIs, aNil, aCons, aStar, tV, uNot, uAnd, uOr, uYes, dI, dIs, DV.isNon, dLen, dInt, dAbs, dTuple, dNeg, dMax2, dMin2, gN, gT, gsN, ownD, putO, putFD, en0, en1, own0, List.map_cons, List.map_nil, List.replicate, List.cons.injEq, Nat.sub_self, Nat.reduceSub, Nat.reduceAdd, Bool.not_true, Bool.not_false,  List.length_cons, List.length_nil, List.getElem?_cons_zero, List.getElem?_cons_succ, List.set_cons_zero, List.set_cons_succ, List.cons_append, List.nil_append, Option.some.injEq, Sl.s.injEq, Sl.o.injEq, Sl.m.injEq, reduceCtorEq, D.int.injEq, D.bl.injEq, D.lst.injEq, D.tup.injEq, D.str.injEq, D.dic.injEq, D.obj.injEq, bne_self_eq_false, Bool.bne_true, Bool.bne_false, ite_true, ite_false, exists_eq_left', exists_eq_left, exists_eq_right, exists_eq', exists_and_left, exists_const, or_false, false_or, and_true, true_and, and_false, false_and, if_true, if_false, Bool.false_eq_true]
    refine ⟨d, lot, rfl, hd, ok.1, hl, ?_⟩
    simpa only [sSeq, sIf, sFor, sSet, sSetO, sRet, sRetN, sNx, sNo, sEx, sFz, sFq, sFldS, sSub, sApp, sExt, sDput, sDupd, sAsg, sParSS, sParSO, sParOS, sParOO, eV, eO, eC, eBin, eUn, eCall, eCallO', eCallO, eMake, eMeth, eCallR, eIf, eNot, eAnd, eOr, eTup, eLst, eIxO, ePop, eIndex, eD1, eSl, oNo, oIs, aNil, aCons, aStar, tV, uNot, uAnd, uOr, uYes, dI, dIs, DV.isNon, dLen, dInt, dAbs, dTuple, dNeg, dMax2, dMin2, gN, gT, gsN, ownD, putO, putFD, en0, en1, own0, List.map_cons, List.map_nil, List.replicate, List.cons.injEq, Nat.sub_self, Nat.reduceSub, Nat.reduceAdd, Bool.not_true, Bool.not_false,  List.length_cons, List.length_nil, List.getElem?_cons_zero, List.getElem?_cons_succ, List.set_cons_zero, List.set_cons_succ, List.cons_append, List.nil_append, Option.some.injEq, Sl.s.injEq, Sl.o.injEq, Sl.m.injEq, reduceCtorEq, D.int.injEq, D.bl.injEq, D.lst.injEq, D.tup.injEq, D.str.injEq, D.dic.injEq, D.obj.injEq, bne_self_eq_false, Bool.bne_true, Bool.bne_false, ite_true, ite_false, exists_eq_left', exists_eq_left, exists_eq_right, exists_eq', exists_and_left, exists_const, or_false, false_or, and_true, true_and, and_false, false_and, if_true, if_false, Bool.false_eq_true] using p
  · rintro x xs ρ ⟨z, rfl, hx⟩ F hF
    have h := hx x List.mem_cons_self
    simp only [sSeq, sIf, sFor, sSet, sSetO, sRet, sRetN, sNx, sNo, sEx, sFz, sFq, sFldS, sSub, sApp, sExt, sDput, sDupd, sAsg, sParSS, sParSO, sParOS, sParOO, eV, eO, eC, eBin, eUn, eCall, eCallO', eCallO, eMake, eMeth, eCallR, eIf, eNot, eAnd, eOr, eTup, eLst, eIxO, ePop, eIndex, eD1, eSl, oNo, oIs, aNil, aCons, aStar, tV, uNot, uAnd, uOr, uYes, dI, dIs, DV.isNon, dLen, dInt, dAbs, dTuple, dNeg, dMax2, dMin2, gN, gT, gsN, ownD, putO, putFD, en0, en1, own0, List.map_cons, List.map_nil, List.replicate, List.cons.injEq, Nat.sub_self, Nat.reduceSub, Nat.reduceAdd, Bool.not_true, Bool.not_false,  List.length_cons, List.length_nil, List.getElem?_cons_zero, List.getElem?_cons_succ, List.set_cons_zero, List.set_cons_succ, List.cons_append, List.nil_append, Option.some.injEq, Sl.s.injEq, Sl.o.injEq, Sl.m.injEq, reduceCtorEq, D.int.injEq, D.bl.injEq, D.lst.injEq, D.tup.injEq, D.str.injEq, D.dic.injEq, D.obj.injEq, bne_self_eq_false, Bool.bne_true, Bool.bne_false, ite_true, ite_false, exists_eq_left', exists_eq_left, exists_eq_right, exists_eq', exists_and_left, exists_const, or_false, false_or, and_true, true_and, and_false, false_and, if_true, if_false, Bool.false_eq_true]
    refine ⟨x, 0, (n : Int) - 1, rfl, ?_⟩
    have e : (decide ((0 : Int) ≤ x) && decide (x ≤ (n : Int) - 1)) = true := by simp; omega
    rw [e]
    simp only [sSeq, sIf, sFor, sSet, sSetO, sRet, sRetN, sNx, sNo, sEx, sFz, sFq, sFldS, sSub, sApp, sExt, sDput, sDupd, sAsg, sParSS, sParSO, sParOS, sParOO, eV, eO, eC, eBin, eUn, eCall, eCallO', eCallO, eMake, eMeth, eCallR, eIf, eNot, eAnd, eOr, eTup, eLst, eIxO, ePop, eIndex, eD1, eSl, oNo, oIs, aNil, aCons, aStar, tV, uNot, uAnd, uOr, uYes, dI, dIs, DV.isNon, dLen, dInt, dAbs, dTuple, dNeg, dMax2, dMin2, gN, gT, gsN, ownD, putO, putFD, en0, en1, own0, List.map_cons, List.map_nil, List.replicate, List.cons.injEq, Nat.sub_self, Nat.reduceSub, Nat.reduceAdd, Bool.not_true, Bool.not_false,  List.length_cons, List.length_nil, List.getElem?_cons_zero, List.getElem?_cons_succ, List.set_cons_zero, List.set_cons_succ, List.cons_append, List.nil_append, Option.some.injEq, Sl.s.injEq, Sl.o.injEq, Sl.m.injEq, reduceCtorEq, D.int.injEq, D.bl.injEq, D.lst.injEq, D.tup.injEq, D.str.injEq, D.dic.injEq, D.obj.injEq, bne_self_eq_false, Bool.bne_true, Bool.bne_false, ite_true, ite_false, exists_eq_left', exists_eq_left, exists_eq_right, exists_eq', exists_and_left, exists_const, or_false, false_or, and_true, true_and, and_false, false_and, if_true, if_false, Bool.false_eq_true]
    exact hF _ ⟨_, rfl, fun y hy => hx y (List.mem_cons_of_mem _ hy)⟩
end KT

set_option Elab.async false
set_option linter.all false
set_option maxRecDepth 100000
set_option maxHeartbeats 4000000
/-! The pure part: sums, rings. -/
namespace KT
open PySem L2 DV
/-! ### words about data -/
theorem fld_l {K : PySem.W.Frag} {L : List Int} {P : D → Prop} : dFld (He.ga K "Ring") "lengths" (ringD K L) P ↔ P (dt L) :=
  ⟨fun ⟨fs, d, e, h, p⟩ => by cases e; have := h.symm.trans (rfl : _ = some (dt L)); rw [← Option.some.inj this]; exact p, fun p => ⟨_, _, rfl, rfl, p⟩⟩
theorem fld_t {K : PySem.W.Frag} {L : List Int} {P : D → Prop} : dFld (He.ga K "Ring") "total" (ringD K L) P ↔ P (.int L.sum) :=
  ⟨fun ⟨fs, d, e, h, p⟩ => by cases e; have := h.symm.trans (rfl : _ = some (D.int L.sum)); rw [← Option.some.inj this]; exact p, fun p => ⟨_, _, rfl, rfl, p⟩⟩
theorem fld_c {K : PySem.W.Frag} {L : List Int} {P : D → Prop} : dFld (He.ga K "Ring") "closes" (ringD K L) P ↔ P (.bl (closesB L)) :=
  ⟨fun ⟨fs, d, e, h, p⟩ => by cases e; have := h.symm.trans (rfl : _ = some (D.bl (closesB L))); rw [← Option.some.inj this]; exact p, fun p => ⟨_, _, rfl, rfl, p⟩⟩
theorem fld_k {K : PySem.W.Frag} {L : List Int} {P : D → Prop} : dFld (He.ga K "Ring") "is_clear" (ringD K L) P ↔ P (.bl (clearB L)) :=
  ⟨fun ⟨fs, d, e, h, p⟩ => by cases e; have := h.symm.trans (rfl : _ = some (D.bl (clearB L))); rw [← Option.some.inj this]; exact p, fun p => ⟨_, _, rfl, rfl, p⟩⟩
theorem beq_eq_decide_eq' {α : Type} [BEq α] [LawfulBEq α] [DecidableEq α] {a b : α} : (a == b) = decide (a = b) := by
  by_cases h : a = b
  · subst h; simp
  · rw [decide_eq_false h, beq_eq_false_iff_ne]; exact h
theorem dqv_int {a b : Int} : dqv (.int a) (.int b) = decide (a = b) := by
  show PyData.eqv (.int a) (.int b) = _
  rw [PyData.eqv, beq_eq_decide_eq']
theorem dqv_str {a b : Str} : dqv (.str a) (.str b) = decide (a = b) := by
  show PyData.eqv (.str a) (.str b) = _
  rw [PyData.eqv, beq_eq_decide_eq']
theorem eq_ii {neg : Bool} {a b : Int} {P : D → Prop} : dEq neg (.int a) (.int b) P ↔ P (.bl (decide (a = b) != neg)) := by
  unfold dEq
  rw [dqv_int]
  exact ⟨fun h => h.2.2, fun h => ⟨⟨rfl, rfl⟩, ⟨rfl, rfl⟩, h⟩⟩
theorem eq_ss {neg : Bool} {a b : Str} (ha : SeqAt.shaped (.str a) = true) (hb : SeqAt.shaped (.str b) = true) {P : D → Prop} (p : P (.bl (decide (a = b) != neg))) : dEq neg (.str a) (.str b) P := by
  unfold dEq
  rw [dqv_str]
  exact ⟨⟨rfl, ha⟩, ⟨rfl, hb⟩, p⟩
theorem sh_level : SeqAt.shaped (.str "level") = true := by decide +kernel
theorem sh_short : SeqAt.shaped (.str "short") = true := by decide +kernel
theorem sh_long : SeqAt.shaped (.str "long") = true := by decide +kernel
theorem sh_srt {L lot : List Int} : SeqAt.shaped (.str (srt L lot)) = true := by
  unfold srt
  split
  · exact sh_level
  · split
    · exact sh_short
    · exact sh_long
theorem lay_ints : ∀ ns : List Int, PyData.canLayAll0 (toPys (ns.map D.int)) = true ∧ PyData.depthAll (toPys (ns.map D.int)) = 0 ∧ okPys (ns.map D.int) = true
  | [] => ⟨rfl, rfl, rfl⟩
  | n :: ns => by
    obtain ⟨h1, h2, h3⟩ := lay_ints ns
    refine ⟨?_, ?_, ?_⟩
    · show (PyData.canLay0 (.int n) && PyData.canLayAll0 (toPys (ns.map D.int))) = true
      rw [h1]; rfl
    · show max (PyData.depth (.int n)) (PyData.depthAll (toPys (ns.map D.int))) = 0
      rw [h2]; rfl
    · show (okPy (.int n) && okPys (ns.map D.int)) = true
      rw [h3]; rfl
theorem shp_dl (ns : List Int) : shp (dl ns) := by
  obtain ⟨h1, h2, h3⟩ := lay_ints ns
  refine ⟨h3, ?_⟩
  show (PyData.canLayAll0 (toPys (ns.map D.int)) && decide (PyData.depthAll (toPys (ns.map D.int)) + 1 ≤ 64)) = true
  rw [h1, h2]; rfl
theorem shp_dt (ns : List Int) : shp (dt ns) := shp_dl ns
theorem lay_tups : ∀ Ls : List (List Int), PyData.canLayAll0 (toPys (Ls.map dt)) = true ∧ PyData.depthAll (toPys (Ls.map dt)) ≤ 1 ∧ okPys (Ls.map dt) = true
  | [] => ⟨rfl, Nat.zero_le _, rfl⟩
  | l :: Ls => by
    obtain ⟨h1, h2, h3⟩ := lay_tups Ls
    obtain ⟨g1, g2, g3⟩ := lay_ints l
    refine ⟨?_, ?_, ?_⟩
    · show (PyData.canLayAll0 (toPys (l.map D.int)) && PyData.canLayAll0 (toPys (Ls.map dt))) = true
      rw [h1, g1]; rfl
    · show max (PyData.depthAll (toPys (l.map D.int)) + 1) (PyData.depthAll (toPys (Ls.map dt))) ≤ 1
      rw [g2]; omega
    · show (okPys (l.map D.int) && okPys (Ls.map dt)) = true
      rw [h3, g3]; rfl
theorem shp_tt (Ls : List (List Int)) : shp (.tup (Ls.map dt)) := by
  obtain ⟨h1, h2, h3⟩ := lay_tups Ls
  refine ⟨h3, ?_⟩
  show (PyData.canLayAll0 (toPys (Ls.map dt)) && decide (PyData.depthAll (toPys (Ls.map dt)) + 1 ≤ 64)) = true
  rw [h1, decide_eq_true (by omega)]; rfl
theorem eqv_ints : ∀ ns ms : List Int, PyData.eqvAll (toPys (ns.map D.int)) (toPys (ms.map D.int)) = decide (ns = ms)
  | [], [] => rfl
  | [], _ :: _ => rfl
  | _ :: _, [] => rfl
  | n :: ns, m :: ms => by
    show (PyData.eqv (.int n) (.int m) && PyData.eqvAll (toPys (ns.map D.int)) (toPys (ms.map D.int))) = _
    rw [eqv_ints ns ms, PyData.eqv, beq_eq_decide_eq']
    simp
theorem dqv_dl {a b : List Int} : dqv (dl a) (dl b) = decide (a = b) := by
  show PyData.eqvAll _ _ = _
  exact eqv_ints a b
theorem eqv_tups : ∀ A B : List (List Int), PyData.eqvAll (toPys (A.map dt)) (toPys (B.map dt)) = decide (A = B)
  | [], [] => rfl
  | [], _ :: _ => rfl
  | _ :: _, [] => rfl
  | n :: ns, m :: ms => by
    show (PyData.eqvAll (toPys (n.map D.int)) (toPys (m.map D.int)) && PyData.eqvAll (toPys (ns.map dt)) (toPys (ms.map dt))) = _
    rw [eqv_tups ns ms, eqv_ints]
    simp
theorem dqv_tt {a b : List (List Int)} : dqv (.tup (a.map dt)) (.tup (b.map dt)) = decide (a = b) := by
  show PyData.eqvAll _ _ = _
  exact eqv_tups a b
theorem eq_dl {neg : Bool} {a b : List Int} {P : D → Prop} (p : P (.bl (decide (a = b) != neg))) : dEq neg (dl a) (dl b) P := by
  unfold dEq
  rw [dqv_dl]; exact ⟨shp_dl _, shp_dl _, p⟩
theorem eq_tt {neg : Bool} {a b : List (List Int)} {P : D → Prop} (p : P (.bl (decide (a = b) != neg))) : dEq neg (.tup (a.map dt)) (.tup (b.map dt)) P := by
  unfold dEq
  rw [dqv_tt]; exact ⟨shp_tt _, shp_tt _, p⟩
theorem ix_t {L : List Int} {b : Int} (h0 : 0 ≤ b) (h1 : b < (L.length : Int)) {P : D → Prop} (p : P (.int (gI L b))) : dIx (.tup (L.map D.int)) (.int b) P := by
  obtain ⟨n, rfl⟩ : ∃ n : Nat, b = n := ⟨b.toNat, by omega⟩
  have hn : n < L.length := by omega
  refine ⟨.int L[n], ?_, ?_⟩
  · rw [atI_map, atI_nat _ _ hn]; rfl
  · have : gI L (n : Int) = L[n] := by
      unfold gI
      rw [Int.toNat_natCast, List.getD_eq_getElem?_getD, List.getElem?_eq_getElem hn]; rfl
    rw [← this]; exact p
theorem ix_l {L : List Int} {b : Int} (h0 : 0 ≤ b) (h1 : b < (L.length : Int)) {P : D → Prop} (p : P (.int (gI L b))) : dIx (.lst (L.map D.int)) (.int b) P := ix_t h0 h1 p
theorem mul_small {a b : Int} (h : -(2 ^ 64) < a ∧ a < 2 ^ 64) : CMul2 a b := .inl (.inl h)
/-! ### the greatest -/
theorem mx_le {L : List Int} {x : Int} (h : x ∈ L) : x ≤ mx L := (foldl_max 0 L).2 x (List.mem_cons_of_mem _ h)
theorem mx_mem {L : List Int} (h : ∀ x ∈ L, 1 ≤ x) (hn : L ≠ []) : mx L ∈ L := by
  rcases List.mem_cons.mp (foldl_max 0 L).1 with e | e
  · cases L with
    | nil => exact absurd rfl hn
    | cons a L =>
      have h1 := h a List.mem_cons_self
      have h2 : a ≤ mx (a :: L) := mx_le List.mem_cons_self
      have h3 : mx (a :: L) = 0 := e
      omega
  · exact e
theorem mx_uniq {L : List Int} (h : ∀ x ∈ L, 1 ≤ x) {m : Int} (hm : m ∈ L) (hu : ∀ y ∈ L, y ≤ m) : m = mx L := by
  have h1 := mx_le hm
  have h2 := hu _ (mx_mem h (fun e => by rw [e] at hm; cases hm))
  omega
theorem max_of {d : D} {L : List Int} (hd : seqD d L) (h : ∀ x ∈ L, 1 ≤ x) (hn : L ≠ []) {P : D → Prop} (p : P (.int (mx L))) : dMax d P := by
  refine ⟨L, hd, by cases L with
    | nil => exact absurd rfl hn
    | cons _ _ => simp, fun m hm hu => ?_⟩
  rw [mx_uniq h hm hu]; exact p
theorem sum_of {d : D} {L : List Int} (hd : seqD d L) {P : D → Prop} (p : P (.int L.sum)) : dSum d P := ⟨L, hd, p⟩
theorem tuple_of {d : D} {L : List Int} (hd : seqD d L) {P : D → Prop} (p : P (dt L)) : dTuple d P := by
  rcases hd with rfl | rfl <;> exact p
/-! ### sums -/
def ins (xs : List Int) (x : Int) : List Int := if x ∈ xs then xs else xs ++ [x]
def rep (xs : List Int) : List (Key × D) := xs.map fun x => (Sum.inl x, D.bl true)
theorem rep_any {xs : List Int} {x : Int} : ((rep xs).any fun q => decide (q.1 = Sum.inl x)) = decide (x ∈ xs) := by
  unfold rep
  rw [List.any_map]
  induction xs with
  | nil => rfl
  | cons y xs ih =>
    rw [List.any_cons, ih]
    show (decide ((Sum.inl y : Key) = Sum.inl x) || decide (x ∈ xs)) = decide (x ∈ y :: xs)
    simp [eq_comm]
theorem rep_put {xs : List Int} {x : Int} : putD (rep xs) (.inl x) (.bl true) = rep (ins xs x) := by
  unfold putD ins
  rw [rep_any]
  by_cases h : x ∈ xs
  · rw [if_pos (decide_eq_true h), if_pos h]
    unfold rep
    rw [List.map_map]
    apply List.map_congr_left
    intro y _
    show (if (Sum.inl y : Key) = Sum.inl x then ((Sum.inl y : Key), D.bl true) else (Sum.inl y, D.bl true)) = (Sum.inl y, D.bl true)
    split <;> rfl
  · rw [if_neg (by simp [h]), if_neg h]; simp [rep]
theorem ins_len {xs : List Int} {x : Int} : (ins xs x).length ≤ xs.length + 1 := by
  unfold ins; split <;> simp
theorem ins_mem {xs : List Int} {x z : Int} : z ∈ ins xs x ↔ z ∈ xs ∨ z = x := by
  unfold ins
  split
  · rename_i h
    exact ⟨.inl, fun q => q.elim id fun e => by rw [e]; exact h⟩
  · simp
theorem insF_mem {ys xs : List Int} {z : Int} : z ∈ ys.foldl ins xs ↔ z ∈ xs ∨ z ∈ ys := by
  induction ys generalizing xs with
  | nil => simp
  | cons y ys ih => rw [List.foldl_cons, ih, ins_mem, List.mem_cons]; exact ⟨fun h => h.elim (fun h => h.elim .inl fun h => .inr (.inl h)) fun h => .inr (.inr h), fun h => h.elim (fun h => .inl (.inl h)) fun h => h.elim (fun h => .inl (.inr h)) .inr⟩
theorem insF_len {ys xs : List Int} : (ys.foldl ins xs).length ≤ xs.length + ys.length := by
  induction ys generalizing xs with
  | nil => simp
  | cons y ys ih =>
    rw [List.foldl_cons, List.length_cons]
    have := ih (xs := ins xs y)
    have := ins_len (xs := xs) (x := y)
    omega
theorem merge_rep {ys xs : List Int} : mergeD (rep xs) (rep ys) = rep (ys.foldl ins xs) := by
  unfold mergeD
  induction ys generalizing xs with
  | nil => rfl
  | cons y ys ih =>
    show (rep ys).foldl _ (putD (rep xs) (.inl y) (.bl true)) = _
    rw [rep_put, ih]; rfl
theorem keys_rep {xs : List Int} : ((rep xs).map fun q => match q.1 with | .inl i => D.int i | .inr s => D.str s) = xs.map D.int := by
  unfold rep; rw [List.map_map]; rfl
theorem len_sums_of (K : PySem.W.Frag) : ∀ ds P R, sp_sums_of K ds P R → ds.length = 1 := fun _ _ _ ⟨_, _, e, _⟩ => by rw [e]; rfl
theorem pu_sums_of (K : PySem.W.Frag) : ∀ ds (Po : D → D → Prop) (R : DX → D → Prop), sp_sums_of K ds Po R → B_sums_of K (en0 ["lengths", "found", "length", "one"] ds) { nx := fun _ => Po .non .non, rt := fun d _ => Po d .non, xe := fun y _ => R y .non } := by
  rintro ds Po R ⟨d, ns, rfl, hd, hl, p⟩
  simp only [B_sums_of, sSeq, sIf, sFor, sSet, sSetO, sRet, sRetN, sNx, sNo, sEx, sFz, sFq, sFldS, sSub, sApp, sExt, sDput, sDupd, sAsg, sParSS, sParSO, sParOS, sParOO, eV, eO, eC, eBin, eUn, eCall, eCallO', eCallO, eMake, eMeth, eCallR, eIf, eNot, eAnd, eOr, eTup, eLst, eIxO, ePop, eIndex, eD1, eSl, oNo, oIs, aNil, aCons, aStar, tV, uNot, uAnd, uOr, uYes, dI, dIs, DV.isNon, dLen, dInt, dAbs, dTuple, dNeg, dMax2, dMin2, gN, gT, gsN, ownD, putO, putFD, en0, en1, own0, List.map_cons, List.map_nil, List.replicate, List.cons.injEq, Nat.sub_self, Nat.reduceSub, Nat.reduceAdd, Bool.not_true, Bool.not_false,  List.length_cons, List.length_nil, List.getElem?_cons_zero, List.getElem?_cons_succ, List.set_cons_zero, List.set_cons_succ, List.cons_append, List.nil_append, Option.some.injEq, Sl.s.injEq, Sl.o.injEq, Sl.m.injEq, reduceCtorEq, D.int.injEq, D.bl.injEq, D.lst.injEq, D.tup.injEq, D.str.injEq, D.dic.injEq, D.obj.injEq, bne_self_eq_false, Bool.bne_true, Bool.bne_false, ite_true, ite_false, exists_eq_left', exists_eq_left, exists_eq_right, exists_eq', exists_and_left, exists_const, or_false, false_or, and_true, true_and, and_false, false_and, if_true, if_false, Bool.false_eq_true, keyOf]
  refine iLT_of hd (fun Q q => ⟨_, rfl, q⟩) ?_
  refine forD_ind (fun ys ρ => ∃ (xs : List Int) (pre : List Int) (z : Sl), ρ = [.s d, .o (.dic (rep xs)), z, .e] ∧ (z = .e ∨ ∃ y, z = .s y) ∧ ns = pre ++ ys ∧ xs.length ≤ 2 ^ pre.length ∧ ∀ x, x ∈ xs ↔ x ∈ sums pre) ?_ ?_ ⟨[0], [], .e, rfl, .inl rfl, rfl, by simp, fun x => by simp [sums]⟩
  · rintro ρ ⟨xs, pre, z, rfl, hz, e, hl, hx⟩
    rw [List.append_nil] at e
    subst e
    simp only [sSeq, sIf, sFor, sSet, sSetO, sRet, sRetN, sNx, sNo, sEx, sFz, sFq, sFldS, sSub, sApp, sExt, sDput, sDupd, sAsg, sParSS, sParSO, sParOS, sParOO, eV, eO, eC, eBin, eUn, eCall, eCallO', eCallO, eMake, eMeth, eCallR, eIf, eNot, eAnd, eOr, eTup, eLst, eIxO, ePop, eIndex, eD1, eSl, oNo, oIs, aNil, aCons, aStar, tV, uNot, uAnd, uOr, uYes, dI, dIs, DV.isNon, dLen, dInt, dAbs, dTuple, dNeg, dMax2, dMin2, gN, gT, gsN, ownD, putO, putFD, en0, en1, own0, List.map_cons, List.map_nil, List.replicate, List.cons.injEq, Nat.sub_self, Nat.reduceSub, Nat.reduceAdd, Bool.not_true, Bool.not_false,  List.length_cons, List.length_nil, List.getElem?_cons_zero, List.getElem?_cons_succ, List.set_cons_zero, List.set_cons_succ, List.cons_append, List.nil_append, Option.some.injEq, Sl.s.injEq, Sl.o.injEq, Sl.m.injEq, reduceCtorEq, D.int.injEq, D.bl.injEq, D.lst.injEq, D.tup.injEq, D.str.injEq, D.dic.injEq, D.obj.injEq, bne_self_eq_false, Bool.bne_true, Bool.bne_false, ite_true, ite_false, exists_eq_left', exists_eq_left, exists_eq_right, exists_eq', exists_and_left, exists_const, or_false, false_or, and_true, true_and, and_false, false_and, if_true, if_false, Bool.false_eq_true]
    exact p _ fun x => by rw [rep_any]; simp [hx]
  · rintro y ys ρ ⟨xs, pre, z, rfl, hz, e, hlx, hx⟩ F hF
    have hp : pre.length ≤ 7 := by rw [e] at hl; simp at hl; omega
    have hp2 : 2 ^ pre.length ≤ 2 ^ 7 := Nat.pow_le_pow_right (by decide) hp
    simp only [sSeq, sIf, sFor, sSet, sSetO, sRet, sRetN, sNx, sNo, sEx, sFz, sFq, sFldS, sSub, sApp, sExt, sDput, sDupd, sAsg, sParSS, sParSO, sParOS, sParOO, eV, eO, eC, eBin, eUn, eCall, eCallO', eCallO, eMake, eMeth, eCallR, eIf, eNot, eAnd, eOr, eTup, eLst, eIxO, ePop, eIndex, eD1, eSl, oNo, oIs, aNil, aCons, aStar, tV, uNot, uAnd, uOr, uYes, dI, dIs, DV.isNon, dLen, dInt, dAbs, dTuple, dNeg, dMax2, dMin2, gN, gT, gsN, ownD, putO, putFD, en0, en1, own0, List.map_cons, List.map_nil, List.replicate, List.cons.injEq, Nat.sub_self, Nat.reduceSub, Nat.reduceAdd, Bool.not_true, Bool.not_false,  List.length_cons, List.length_nil, List.getElem?_cons_zero, List.getElem?_cons_succ, List.set_cons_zero, List.set_cons_succ, List.cons_append, List.nil_append, Option.some.injEq, Sl.s.injEq, Sl.o.injEq, Sl.m.injEq, reduceCtorEq, D.int.injEq, D.bl.injEq, D.lst.injEq, D.tup.injEq, D.str.injEq, D.dic.injEq, D.obj.injEq, bne_self_eq_false, Bool.bne_true, Bool.bne_false, ite_true, ite_false, exists_eq_left', exists_eq_left, exists_eq_right, exists_eq', exists_and_left, exists_const, or_false, false_or, and_true, true_and, and_false, false_and, if_true, if_false, Bool.false_eq_true]
    unfold eDc iLT
    simp only [sSeq, sIf, sFor, sSet, sSetO, sRet, sRetN, sNx, sNo, sEx, sFz, sFq, sFldS, sSub, sApp, sExt, sDput, sDupd, sAsg, sParSS, sParSO, sParOS, sParOO, eV, eO, eC, eBin, eUn, eCall, eCallO', eCallO, eMake, eMeth, eCallR, eIf, eNot, eAnd, eOr, eTup, eLst, eIxO, ePop, eIndex, eD1, eSl, oNo, oIs, aNil, aCons, aStar, tV, uNot, uAnd, uOr, uYes, dI, dIs, DV.isNon, dLen, dInt, dAbs, dTuple, dNeg, dMax2, dMin2, gN, gT, gsN, ownD, putO, putFD, en0, en1, own0, List.map_cons, List.map_nil, List.replicate, List.cons.injEq, Nat.sub_self, Nat.reduceSub, Nat.reduceAdd, Bool.not_true, Bool.not_false,  List.length_cons, List.length_nil, List.getElem?_cons_zero, List.getElem?_cons_succ, List.set_cons_zero, List.set_cons_succ, List.cons_append, List.nil_append, Option.some.injEq, Sl.s.injEq, Sl.o.injEq, Sl.m.injEq, reduceCtorEq, D.int.injEq, D.bl.injEq, D.lst.injEq, D.tup.injEq, D.str.injEq, D.dic.injEq, D.obj.injEq, bne_self_eq_false, Bool.bne_true, Bool.bne_false, ite_true, ite_false, exists_eq_left', exists_eq_left, exists_eq_right, exists_eq', exists_and_left, exists_const, or_false, false_or, and_true, true_and, and_false, false_and, if_true, if_false, Bool.false_eq_true, dList, keys_rep]
    refine ⟨by simp [quiet], ?_⟩
    generalize hk : List.map _ (rep xs) = kk
    have hkk : kk = xs.map D.int := by rw [← hk]; exact keys_rep
    subst hkk
    show dcD [3] _ _ _ _ (xs.map D.int) [] [.s d, .o (.dic (rep xs)), .s (.int y), .e] _ _
    have key : ∀ (us vs : List Int), vs.length + us.length ≤ 1000 → ∀ Q : List (Key × D) → En → Prop, Q (rep ((us.map fun x => x + y).foldl ins vs)) [.s d, .o (.dic (rep xs)), .s (.int y), .e] →
        dcD [3] (fun d ρ P => P (ρ.set 3 (.s d))) (fun ρ P x => P true ρ) (fun ρ P R => ∃ d, ρ[3]? = some (.s d) ∧ ∃ d_1, ρ[2]? = some (.s d_1) ∧ dAdd d d_1 fun z => P z ρ) (fun ρ P x => P (.bl true) ρ) (us.map D.int) (rep vs) [.s d, .o (.dic (rep xs)), .s (.int y), .e] Q noR := fun us => by
      induction us with
      | nil => intro vs _ Q q; exact q
      | cons u us ih =>
        intro vs hv Q q
        simp only [List.map_cons, dcD, sSeq, sIf, sFor, sSet, sSetO, sRet, sRetN, sNx, sNo, sEx, sFz, sFq, sFldS, sSub, sApp, sExt, sDput, sDupd, sAsg, sParSS, sParSO, sParOS, sParOO, eV, eO, eC, eBin, eUn, eCall, eCallO', eCallO, eMake, eMeth, eCallR, eIf, eNot, eAnd, eOr, eTup, eLst, eIxO, ePop, eIndex, eD1, eSl, oNo, oIs, aNil, aCons, aStar, tV, uNot, uAnd, uOr, uYes, dI, dIs, DV.isNon, dLen, dInt, dAbs, dTuple, dNeg, dMax2, dMin2, gN, gT, gsN, ownD, putO, putFD, en0, en1, own0, List.map_cons, List.map_nil, List.replicate, List.cons.injEq, Nat.sub_self, Nat.reduceSub, Nat.reduceAdd, Bool.not_true, Bool.not_false,  List.length_cons, List.length_nil, List.getElem?_cons_zero, List.getElem?_cons_succ, List.set_cons_zero, List.set_cons_succ, List.cons_append, List.nil_append, Option.some.injEq, Sl.s.injEq, Sl.o.injEq, Sl.m.injEq, reduceCtorEq, D.int.injEq, D.bl.injEq, D.lst.injEq, D.tup.injEq, D.str.injEq, D.dic.injEq, D.obj.injEq, bne_self_eq_false, Bool.bne_true, Bool.bne_false, ite_true, ite_false, exists_eq_left', exists_eq_left, exists_eq_right, exists_eq', exists_and_left, exists_const, or_false, false_or, and_true, true_and, and_false, false_and, if_true, if_false, Bool.false_eq_true, dAdd, keyOf]
        refine ⟨?_, ?_⟩
        · have : (rep vs).length = vs.length := List.length_map ..
          rw [this]
          simp at hv
          exact Nat.lt_of_lt_of_le (by omega : vs.length < 100000) (by decide)
        · rw [rep_put]
          refine ih _ ?_ Q q
          have := ins_len (xs := vs) (x := u + y)
          simp at hv; omega
    refine key xs [] (by simp; omega) _ ?_
    simp only [back, sSeq, sIf, sFor, sSet, sSetO, sRet, sRetN, sNx, sNo, sEx, sFz, sFq, sFldS, sSub, sApp, sExt, sDput, sDupd, sAsg, sParSS, sParSO, sParOS, sParOO, eV, eO, eC, eBin, eUn, eCall, eCallO', eCallO, eMake, eMeth, eCallR, eIf, eNot, eAnd, eOr, eTup, eLst, eIxO, ePop, eIndex, eD1, eSl, oNo, oIs, aNil, aCons, aStar, tV, uNot, uAnd, uOr, uYes, dI, dIs, DV.isNon, dLen, dInt, dAbs, dTuple, dNeg, dMax2, dMin2, gN, gT, gsN, ownD, putO, putFD, en0, en1, own0, List.map_cons, List.map_nil, List.replicate, List.cons.injEq, Nat.sub_self, Nat.reduceSub, Nat.reduceAdd, Bool.not_true, Bool.not_false,  List.length_cons, List.length_nil, List.getElem?_cons_zero, List.getElem?_cons_succ, List.set_cons_zero, List.set_cons_succ, List.cons_append, List.nil_append, Option.some.injEq, Sl.s.injEq, Sl.o.injEq, Sl.m.injEq, reduceCtorEq, D.int.injEq, D.bl.injEq, D.lst.injEq, D.tup.injEq, D.str.injEq, D.dic.injEq, D.obj.injEq, bne_self_eq_false, Bool.bne_true, Bool.bne_false, ite_true, ite_false, exists_eq_left', exists_eq_left, exists_eq_right, exists_eq', exists_and_left, exists_const, or_false, false_or, and_true, true_and, and_false, false_and, if_true, if_false, Bool.false_eq_true]
    have hl1 : (rep xs).length = xs.length := List.length_map ..
    have hl2 : (rep ((xs.map fun x => x + y).foldl ins [])).length ≤ xs.length := by
      have : (rep ((xs.map fun x => x + y).foldl ins [])).length = ((xs.map fun x => x + y).foldl ins []).length := List.length_map ..
      rw [this]
      have := insF_len (ys := xs.map fun x => x + y) (xs := [])
      simpa using this
    refine ⟨sz (by omega), ?_⟩
    rw [merge_rep]
    refine hF _ ⟨_, pre ++ [y], .s (.int y), rfl, .inr ⟨_, rfl⟩, by rw [e]; simp, ?_, fun x => ?_⟩
    · have h3 := insF_len (ys := (xs.map fun x => x + y).foldl ins []) (xs := xs)
      have h4 := insF_len (ys := xs.map fun x => x + y) (xs := [])
      simp only [List.length_append, List.length_cons, List.length_nil, Nat.pow_succ, List.length_map] at h3 h4 ⊢
      omega
    · rw [insF_mem, insF_mem, hx]
      unfold sums
      rw [List.foldl_append]
      simp only [List.foldl_cons, List.foldl_nil, List.mem_append, List.mem_map]
      constructor
      · rintro (h | h | ⟨u, hu, e⟩)
        · exact .inl h
        · cases h
        · exact .inr ⟨u, (hx u).mp hu, e⟩
      · rintro (h | ⟨u, hu, e⟩)
        · exact .inl h
        · exact .inr (.inr ⟨u, (hx u).mpr hu, e⟩)
end KT

set_option Elab.async false
set_option linter.all false
set_option maxRecDepth 100000
set_option maxHeartbeats 4000000
/-! The pure part: rings. -/
namespace KT
open PySem L2 DV
theorem len_sort_in (K : PySem.W.Frag) : ∀ ds P R, sp_sort_in K ds P R → ds.length = 2 := fun _ _ _ ⟨_, _, _, e, _⟩ => by rw [e]; rfl
theorem pu_sort_in (K : PySem.W.Frag) : ∀ ds (Po : D → D → Prop) (R : DX → D → Prop), sp_sort_in K ds Po R → B_sort_in K (en0 ["ring", "lot", "twice", "bar"] ds) { nx := fun _ => Po .non .non, rt := fun d _ => Po d .non, xe := fun y _ => R y .non } := by
  rintro ds Po R ⟨L, lot, d, rfl, hd, ok, hw, hl, p⟩
  simp only [B_sort_in, sSeq, sIf, sFor, sSet, sSetO, sRet, sRetN, sNx, sNo, sEx, sFz, sFq, sFldS, sSub, sApp, sExt, sDput, sDupd, sAsg, sParSS, sParSO, sParOS, sParOO, eV, eO, eC, eBin, eUn, eCall, eCallO', eCallO, eMake, eMeth, eCallR, eIf, eNot, eAnd, eOr, eTup, eLst, eIxO, ePop, eIndex, eD1, eSl, oNo, oIs, aNil, aCons, aStar, tV, uNot, uAnd, uOr, uYes, dI, dIs, DV.isNon, dLen, dInt, dAbs, dTuple, dNeg, dMax2, dMin2, gN, gT, gsN, ownD, putO, putFD, en0, en1, own0, List.map_cons, List.map_nil, List.replicate, List.cons.injEq, Nat.sub_self, Nat.reduceSub, Nat.reduceAdd, Bool.not_true, Bool.not_false,  List.length_cons, List.length_nil, List.getElem?_cons_zero, List.getElem?_cons_succ, List.set_cons_zero, List.set_cons_succ, List.cons_append, List.nil_append, Option.some.injEq, Sl.s.injEq, Sl.o.injEq, Sl.m.injEq, reduceCtorEq, D.int.injEq, D.bl.injEq, D.lst.injEq, D.tup.injEq, D.str.injEq, D.dic.injEq, D.obj.injEq, bne_self_eq_false, Bool.bne_true, Bool.bne_false, ite_true, ite_false, exists_eq_left', exists_eq_left, exists_eq_right, exists_eq', exists_and_left, exists_const, or_false, false_or, and_true, true_and, and_false, false_and, if_true, if_false, Bool.false_eq_true]
  refine eLc_p1 lot D.int (fun x => [.s (ringD K L), .s d, .e, .s (.int x)]) (D.int ∘ gI L) (fun Q q => iLT_of hd (fun Q q => ⟨_, rfl, q⟩) q) (by simp [quiet]) (fun x _ Q q => q) (fun _ _ => rfl) (fun x hx Q q => ?_) (sz (by omega)) ?_
  · simp only [sSeq, sIf, sFor, sSet, sSetO, sRet, sRetN, sNx, sNo, sEx, sFz, sFq, sFldS, sSub, sApp, sExt, sDput, sDupd, sAsg, sParSS, sParSO, sParOS, sParOO, eV, eO, eC, eBin, eUn, eCall, eCallO', eCallO, eMake, eMeth, eCallR, eIf, eNot, eAnd, eOr, eTup, eLst, eIxO, ePop, eIndex, eD1, eSl, oNo, oIs, aNil, aCons, aStar, tV, uNot, uAnd, uOr, uYes, dI, dIs, DV.isNon, dLen, dInt, dAbs, dTuple, dNeg, dMax2, dMin2, gN, gT, gsN, ownD, putO, putFD, en0, en1, own0, List.map_cons, List.map_nil, List.replicate, List.cons.injEq, Nat.sub_self, Nat.reduceSub, Nat.reduceAdd, Bool.not_true, Bool.not_false,  List.length_cons, List.length_nil, List.getElem?_cons_zero, List.getElem?_cons_succ, List.set_cons_zero, List.set_cons_succ, List.cons_append, List.nil_append, Option.some.injEq, Sl.s.injEq, Sl.o.injEq, Sl.m.injEq, reduceCtorEq, D.int.injEq, D.bl.injEq, D.lst.injEq, D.tup.injEq, D.str.injEq, D.dic.injEq, D.obj.injEq, bne_self_eq_false, Bool.bne_true, Bool.bne_false, ite_true, ite_false, exists_eq_left', exists_eq_left, exists_eq_right, exists_eq', exists_and_left, exists_const, or_false, false_or, and_true, true_and, and_false, false_and, if_true, if_false, Bool.false_eq_true, fld_l]
    exact ix_t (hw x hx).1 (hw x hx).2 q
  · rw [← List.map_map, dSum_l]
    simp only [dMul, sSeq, sIf, sFor, sSet, sSetO, sRet, sRetN, sNx, sNo, sEx, sFz, sFq, sFldS, sSub, sApp, sExt, sDput, sDupd, sAsg, sParSS, sParSO, sParOS, sParOO, eV, eO, eC, eBin, eUn, eCall, eCallO', eCallO, eMake, eMeth, eCallR, eIf, eNot, eAnd, eOr, eTup, eLst, eIxO, ePop, eIndex, eD1, eSl, oNo, oIs, aNil, aCons, aStar, tV, uNot, uAnd, uOr, uYes, dI, dIs, DV.isNon, dLen, dInt, dAbs, dTuple, dNeg, dMax2, dMin2, gN, gT, gsN, ownD, putO, putFD, en0, en1, own0, List.map_cons, List.map_nil, List.replicate, List.cons.injEq, Nat.sub_self, Nat.reduceSub, Nat.reduceAdd, Bool.not_true, Bool.not_false,  List.length_cons, List.length_nil, List.getElem?_cons_zero, List.getElem?_cons_succ, List.set_cons_zero, List.set_cons_succ, List.cons_append, List.nil_append, Option.some.injEq, Sl.s.injEq, Sl.o.injEq, Sl.m.injEq, reduceCtorEq, D.int.injEq, D.bl.injEq, D.lst.injEq, D.tup.injEq, D.str.injEq, D.dic.injEq, D.obj.injEq, bne_self_eq_false, Bool.bne_true, Bool.bne_false, ite_true, ite_false, exists_eq_left', exists_eq_left, exists_eq_right, exists_eq', exists_and_left, exists_const, or_false, false_or, and_true, true_and, and_false, false_and, if_true, if_false, Bool.false_eq_true, fld_t, eq_ii]
    refine ⟨mul_small (by decide), ?_⟩
    have hs : 2 * (lot.map (gI L)).sum = 2 * lsum L lot := rfl
    rw [hs]
    unfold srt at p
    by_cases h1 : 2 * lsum L lot = L.sum
    · rw [if_pos h1] at p
      simpa [h1] using p
    · rw [if_neg h1] at p
      by_cases h2 : 2 * lsum L lot < L.sum
      · rw [if_pos h2] at p
        simpa [h1, h2] using p
      · rw [if_neg h2] at p
        simpa [h1, h2] using p
theorem len_Ring_length_of (K : PySem.W.Frag) : ∀ ds P R, sp_Ring_length_of K ds P R → ds.length = 2 := fun _ _ _ ⟨_, _, _, e, _⟩ => by rw [e]; rfl
theorem pu_Ring_length_of (K : PySem.W.Frag) : ∀ ds (Po : D → D → Prop) (R : DX → D → Prop), sp_Ring_length_of K ds Po R → B_Ring_length_of K (en0 ["self", "lot", "bar"] ds) { nx := fun _ => Po .non .non, rt := fun d _ => Po d .non, xe := fun y _ => R y .non } := by
  rintro ds Po R ⟨L, lot, d, rfl, hd, ok, hw, hl, p⟩
  simp only [B_Ring_length_of, sSeq, sIf, sFor, sSet, sSetO, sRet, sRetN, sNx, sNo, sEx, sFz, sFq, sFldS, sSub, sApp, sExt, sDput, sDupd, sAsg, sParSS, sParSO, sParOS, sParOO, eV, eO, eC, eBin, eUn, eCall, eCallO', eCallO, eMake, eMeth, eCallR, eIf, eNot, eAnd, eOr, eTup, eLst, eIxO, ePop, eIndex, eD1, eSl, oNo, oIs, aNil, aCons, aStar, tV, uNot, uAnd, uOr, uYes, dI, dIs, DV.isNon, dLen, dInt, dAbs, dTuple, dNeg, dMax2, dMin2, gN, gT, gsN, ownD, putO, putFD, en0, en1, own0, List.map_cons, List.map_nil, List.replicate, List.cons.injEq, Nat.sub_self, Nat.reduceSub, Nat.reduceAdd, Bool.not_true, Bool.not_false,  List.length_cons, List.length_nil, List.getElem?_cons_zero, List.getElem?_cons_succ, List.set_cons_zero, List.set_cons_succ, List.cons_append, List.nil_append, Option.some.injEq, Sl.s.injEq, Sl.o.injEq, Sl.m.injEq, reduceCtorEq, D.int.injEq, D.bl.injEq, D.lst.injEq, D.tup.injEq, D.str.injEq, D.dic.injEq, D.obj.injEq, bne_self_eq_false, Bool.bne_true, Bool.bne_false, ite_true, ite_false, exists_eq_left', exists_eq_left, exists_eq_right, exists_eq', exists_and_left, exists_const, or_false, false_or, and_true, true_and, and_false, false_and, if_true, if_false, Bool.false_eq_true]
  refine ⟨L, lot, d, "lot", rfl, hd, hw, hl, ?_⟩
  refine eLc_p1 lot D.int (fun x => [.s (ringD K L), .s d, .s (.int x)]) (D.int ∘ gI L) (fun Q q => iLT_of hd (fun Q q => ⟨_, rfl, q⟩) q) (by simp [quiet]) (fun x _ Q q => q) (fun _ _ => rfl) (fun x hx Q q => ?_) (sz (by omega)) ?_
  · simp only [sSeq, sIf, sFor, sSet, sSetO, sRet, sRetN, sNx, sNo, sEx, sFz, sFq, sFldS, sSub, sApp, sExt, sDput, sDupd, sAsg, sParSS, sParSO, sParOS, sParOO, eV, eO, eC, eBin, eUn, eCall, eCallO', eCallO, eMake, eMeth, eCallR, eIf, eNot, eAnd, eOr, eTup, eLst, eIxO, ePop, eIndex, eD1, eSl, oNo, oIs, aNil, aCons, aStar, tV, uNot, uAnd, uOr, uYes, dI, dIs, DV.isNon, dLen, dInt, dAbs, dTuple, dNeg, dMax2, dMin2, gN, gT, gsN, ownD, putO, putFD, en0, en1, own0, List.map_cons, List.map_nil, List.replicate, List.cons.injEq, Nat.sub_self, Nat.reduceSub, Nat.reduceAdd, Bool.not_true, Bool.not_false,  List.length_cons, List.length_nil, List.getElem?_cons_zero, List.getElem?_cons_succ, List.set_cons_zero, List.set_cons_succ, List.cons_append, List.nil_append, Option.some.injEq, Sl.s.injEq, Sl.o.injEq, Sl.m.injEq, reduceCtorEq, D.int.injEq, D.bl.injEq, D.lst.injEq, D.tup.injEq, D.str.injEq, D.dic.injEq, D.obj.injEq, bne_self_eq_false, Bool.bne_true, Bool.bne_false, ite_true, ite_false, exists_eq_left', exists_eq_left, exists_eq_right, exists_eq', exists_and_left, exists_const, or_false, false_or, and_true, true_and, and_false, false_and, if_true, if_false, Bool.false_eq_true, fld_l]
    exact ix_t (hw.2 x hx).1 (hw.2 x hx).2 q
  · rw [← List.map_map, dSum_l]
    exact p
theorem len_Ring_sort_of (K : PySem.W.Frag) : ∀ ds P R, sp_Ring_sort_of K ds P R → ds.length = 2 := fun _ _ _ ⟨_, _, _, e, _⟩ => by rw [e]; rfl
theorem pu_Ring_sort_of (K : PySem.W.Frag) : ∀ ds (Po : D → D → Prop) (R : DX → D → Prop), sp_Ring_sort_of K ds Po R → B_Ring_sort_of K (en0 ["self", "lot"] ds) { nx := fun _ => Po .non .non, rt := fun d _ => Po d .non, xe := fun y _ => R y .non } := by
  rintro ds Po R ⟨L, lot, d, rfl, hd, ok, hw, hl, p⟩
  simp only [B_Ring_sort_of, sSeq, sIf, sFor, sSet, sSetO, sRet, sRetN, sNx, sNo, sEx, sFz, sFq, sFldS, sSub, sApp, sExt, sDput, sDupd, sAsg, sParSS, sParSO, sParOS, sParOO, eV, eO, eC, eBin, eUn, eCall, eCallO', eCallO, eMake, eMeth, eCallR, eIf, eNot, eAnd, eOr, eTup, eLst, eIxO, ePop, eIndex, eD1, eSl, oNo, oIs, aNil, aCons, aStar, tV, uNot, uAnd, uOr, uYes, dI, dIs, DV.isNon, dLen, dInt, dAbs, dTuple, dNeg, dMax2, dMin2, gN, gT, gsN, ownD, putO, putFD, en0, en1, own0, List.map_cons, List.map_nil, List.replicate, List.cons.injEq, Nat.sub_self, Nat.reduceSub, Nat.reduceAdd, Bool.not_true, Bool.not_false,  List.length_cons, List.length_nil, List.getElem?_cons_zero, List.getElem?_cons_succ, List.set_cons_zero, List.set_cons_succ, List.cons_append, List.nil_append, Option.some.injEq, Sl.s.injEq, Sl.o.injEq, Sl.m.injEq, reduceCtorEq, D.int.injEq, D.bl.injEq, D.lst.injEq, D.tup.injEq, D.str.injEq, D.dic.injEq, D.obj.injEq, bne_self_eq_false, Bool.bne_true, Bool.bne_false, ite_true, ite_false, exists_eq_left', exists_eq_left, exists_eq_right, exists_eq', exists_and_left, exists_const, or_false, false_or, and_true, true_and, and_false, false_and, if_true, if_false, Bool.false_eq_true]
  exact ⟨L, lot, d, "lot", rfl, hd, hw, hl, L, lot, d, rfl, hd, ok, hw.2, hl, p⟩
theorem len_Ring_init (K : PySem.W.Frag) : ∀ ds P R, sp_Ring_init K ds P R → ds.length = 2 := fun _ _ _ ⟨_, _, e, _⟩ => by rw [e]; rfl
theorem all_ok {L : List Int} (ok : okL L) : (L.all fun x => decide (1 ≤ x) && decide (x ≤ 1000000)) = true := List.all_eq_true.mpr fun x hx => by
  have := ok.b x hx
  simp; omega
theorem pu_Ring_init (K : PySem.W.Frag) : ∀ d0 ds (Po : D → D → Prop) (R : DX → D → Prop), sp_Ring_init K (d0 :: ds) Po R → B_Ring_init K (en1 ["self", "lengths"] d0 ds) { nx := fun ρ => ∃ d1, own0 ρ d1 ∧ Po .non d1, rt := fun d ρ => ∃ d1, own0 ρ d1 ∧ Po d d1, xe := fun y ρ => ∃ d1, own0 ρ d1 ∧ R y d1 } := by
  rintro d0 ds Po R ⟨d, L, e, hd, ok, p⟩
  cases e
  have h3 := ok.lo
  have h8 := ok.hi
  have hne : L ≠ [] := fun e => by rw [e] at h3; simp at h3
  have f1 : decide ((L.length : Int) < 3) = false := decide_eq_false (by omega)
  have f2 : decide ((8 : Int) < (L.length : Int)) = false := decide_eq_false (by omega)
  simp only [B_Ring_init, sSeq, sIf, sFor, sSet, sSetO, sRet, sRetN, sNx, sNo, sEx, sFz, sFq, sFldS, sSub, sApp, sExt, sDput, sDupd, sAsg, sParSS, sParSO, sParOS, sParOO, eV, eO, eC, eBin, eUn, eCall, eCallO', eCallO, eMake, eMeth, eCallR, eIf, eNot, eAnd, eOr, eTup, eLst, eIxO, ePop, eIndex, eD1, eSl, oNo, oIs, aNil, aCons, aStar, tV, uNot, uAnd, uOr, uYes, dI, dIs, DV.isNon, dLen, dInt, dAbs, dTuple, dNeg, dMax2, dMin2, gN, gT, gsN, ownD, putO, putFD, en0, en1, own0, List.map_cons, List.map_nil, List.replicate, List.cons.injEq, Nat.sub_self, Nat.reduceSub, Nat.reduceAdd, Bool.not_true, Bool.not_false,  List.length_cons, List.length_nil, List.getElem?_cons_zero, List.getElem?_cons_succ, List.set_cons_zero, List.set_cons_succ, List.cons_append, List.nil_append, Option.some.injEq, Sl.s.injEq, Sl.o.injEq, Sl.m.injEq, reduceCtorEq, D.int.injEq, D.bl.injEq, D.lst.injEq, D.tup.injEq, D.str.injEq, D.dic.injEq, D.obj.injEq, bne_self_eq_false, Bool.bne_true, Bool.bne_false, ite_true, ite_false, exists_eq_left', exists_eq_left, exists_eq_right, exists_eq', exists_and_left, exists_const, or_false, false_or, and_true, true_and, and_false, false_and, if_true, if_false, Bool.false_eq_true]
  refine ⟨d, L, rfl, hd, by omega, ?_⟩
  rw [all_ok ok]
  simp only [sSeq, sIf, sFor, sSet, sSetO, sRet, sRetN, sNx, sNo, sEx, sFz, sFq, sFldS, sSub, sApp, sExt, sDput, sDupd, sAsg, sParSS, sParSO, sParOS, sParOO, eV, eO, eC, eBin, eUn, eCall, eCallO', eCallO, eMake, eMeth, eCallR, eIf, eNot, eAnd, eOr, eTup, eLst, eIxO, ePop, eIndex, eD1, eSl, oNo, oIs, aNil, aCons, aStar, tV, uNot, uAnd, uOr, uYes, dI, dIs, DV.isNon, dLen, dInt, dAbs, dTuple, dNeg, dMax2, dMin2, gN, gT, gsN, ownD, putO, putFD, en0, en1, own0, List.map_cons, List.map_nil, List.replicate, List.cons.injEq, Nat.sub_self, Nat.reduceSub, Nat.reduceAdd, Bool.not_true, Bool.not_false,  List.length_cons, List.length_nil, List.getElem?_cons_zero, List.getElem?_cons_succ, List.set_cons_zero, List.set_cons_succ, List.cons_append, List.nil_append, Option.some.injEq, Sl.s.injEq, Sl.o.injEq, Sl.m.injEq, reduceCtorEq, D.int.injEq, D.bl.injEq, D.lst.injEq, D.tup.injEq, D.str.injEq, D.dic.injEq, D.obj.injEq, bne_self_eq_false, Bool.bne_true, Bool.bne_false, ite_true, ite_false, exists_eq_left', exists_eq_left, exists_eq_right, exists_eq', exists_and_left, exists_const, or_false, false_or, and_true, true_and, and_false, false_and, if_true, if_false, Bool.false_eq_true]
  refine len_of hd ?_
  simp only [sSeq, sIf, sFor, sSet, sSetO, sRet, sRetN, sNx, sNo, sEx, sFz, sFq, sFldS, sSub, sApp, sExt, sDput, sDupd, sAsg, sParSS, sParSO, sParOS, sParOO, eV, eO, eC, eBin, eUn, eCall, eCallO', eCallO, eMake, eMeth, eCallR, eIf, eNot, eAnd, eOr, eTup, eLst, eIxO, ePop, eIndex, eD1, eSl, oNo, oIs, aNil, aCons, aStar, tV, uNot, uAnd, uOr, uYes, dI, dIs, DV.isNon, dLen, dInt, dAbs, dTuple, dNeg, dMax2, dMin2, gN, gT, gsN, ownD, putO, putFD, en0, en1, own0, List.map_cons, List.map_nil, List.replicate, List.cons.injEq, Nat.sub_self, Nat.reduceSub, Nat.reduceAdd, Bool.not_true, Bool.not_false,  List.length_cons, List.length_nil, List.getElem?_cons_zero, List.getElem?_cons_succ, List.set_cons_zero, List.set_cons_succ, List.cons_append, List.nil_append, Option.some.injEq, Sl.s.injEq, Sl.o.injEq, Sl.m.injEq, reduceCtorEq, D.int.injEq, D.bl.injEq, D.lst.injEq, D.tup.injEq, D.str.injEq, D.dic.injEq, D.obj.injEq, bne_self_eq_false, Bool.bne_true, Bool.bne_false, ite_true, ite_false, exists_eq_left', exists_eq_left, exists_eq_right, exists_eq', exists_and_left, exists_const, or_false, false_or, and_true, true_and, and_false, false_and, if_true, if_false, Bool.false_eq_true, f1]
  refine len_of hd ?_
  simp only [sSeq, sIf, sFor, sSet, sSetO, sRet, sRetN, sNx, sNo, sEx, sFz, sFq, sFldS, sSub, sApp, sExt, sDput, sDupd, sAsg, sParSS, sParSO, sParOS, sParOO, eV, eO, eC, eBin, eUn, eCall, eCallO', eCallO, eMake, eMeth, eCallR, eIf, eNot, eAnd, eOr, eTup, eLst, eIxO, ePop, eIndex, eD1, eSl, oNo, oIs, aNil, aCons, aStar, tV, uNot, uAnd, uOr, uYes, dI, dIs, DV.isNon, dLen, dInt, dAbs, dTuple, dNeg, dMax2, dMin2, gN, gT, gsN, ownD, putO, putFD, en0, en1, own0, List.map_cons, List.map_nil, List.replicate, List.cons.injEq, Nat.sub_self, Nat.reduceSub, Nat.reduceAdd, Bool.not_true, Bool.not_false,  List.length_cons, List.length_nil, List.getElem?_cons_zero, List.getElem?_cons_succ, List.set_cons_zero, List.set_cons_succ, List.cons_append, List.nil_append, Option.some.injEq, Sl.s.injEq, Sl.o.injEq, Sl.m.injEq, reduceCtorEq, D.int.injEq, D.bl.injEq, D.lst.injEq, D.tup.injEq, D.str.injEq, D.dic.injEq, D.obj.injEq, bne_self_eq_false, Bool.bne_true, Bool.bne_false, ite_true, ite_false, exists_eq_left', exists_eq_left, exists_eq_right, exists_eq', exists_and_left, exists_const, or_false, false_or, and_true, true_and, and_false, false_and, if_true, if_false, Bool.false_eq_true, f2]
  refine tuple_of hd ?_
  have n1 : ¬ (("lengths" : Str) = "total") := by decide +kernel
  have n2 : ¬ (("lengths" : Str) = "closes") := by decide +kernel
  have n3 : ¬ (("lengths" : Str) = "is_clear") := by decide +kernel
  have n4 : ¬ (("total" : Str) = "closes") := by decide +kernel
  have n5 : ¬ (("total" : Str) = "is_clear") := by decide +kernel
  have n6 : ¬ (("closes" : Str) = "is_clear") := by decide +kernel
  simp only [sSeq, sIf, sFor, sSet, sSetO, sRet, sRetN, sNx, sNo, sEx, sFz, sFq, sFldS, sSub, sApp, sExt, sDput, sDupd, sAsg, sParSS, sParSO, sParOS, sParOO, eV, eO, eC, eBin, eUn, eCall, eCallO', eCallO, eMake, eMeth, eCallR, eIf, eNot, eAnd, eOr, eTup, eLst, eIxO, ePop, eIndex, eD1, eSl, oNo, oIs, aNil, aCons, aStar, tV, uNot, uAnd, uOr, uYes, dI, dIs, DV.isNon, dLen, dInt, dAbs, dTuple, dNeg, dMax2, dMin2, gN, gT, gsN, ownD, putO, putFD, en0, en1, own0, List.map_cons, List.map_nil, List.replicate, List.cons.injEq, Nat.sub_self, Nat.reduceSub, Nat.reduceAdd, Bool.not_true, Bool.not_false,  List.length_cons, List.length_nil, List.getElem?_cons_zero, List.getElem?_cons_succ, List.set_cons_zero, List.set_cons_succ, List.cons_append, List.nil_append, Option.some.injEq, Sl.s.injEq, Sl.o.injEq, Sl.m.injEq, reduceCtorEq, D.int.injEq, D.bl.injEq, D.lst.injEq, D.tup.injEq, D.str.injEq, D.dic.injEq, D.obj.injEq, bne_self_eq_false, Bool.bne_true, Bool.bne_false, ite_true, ite_false, exists_eq_left', exists_eq_left, exists_eq_right, exists_eq', exists_and_left, exists_const, or_false, false_or, and_true, true_and, and_false, false_and, if_true, if_false, Bool.false_eq_true, if_neg n1, if_neg n2, if_neg n3, if_neg n4, if_neg n5, if_neg n6]
  refine ⟨by decide, sum_of hd ⟨by decide, max_of hd (fun x hx => (ok.b x hx).1) hne ⟨mul_small (by decide), ?_⟩⟩⟩
  refine ⟨_, _, rfl, rfl, trivial, by decide, _, _, rfl, rfl, (by decide : (0 : Int) < 2), ?_⟩
  dsimp only
  rw [eq_ii]
  refine ⟨_, rfl, ?_⟩
  rw [Bool.bne_false]
  have e1 : (decide (2 * mx L ≤ L.sum)) = closesB L := rfl
  rw [e1]
  by_cases hc : L.sum % 2 = 1
  · rw [if_pos (decide_eq_true hc)]
    refine ⟨by decide, ringD K L, ⟨0, ?_⟩, p⟩
    have : clearB L = true := by unfold clearB; rw [decide_eq_true hc]; rfl
    unfold ringD
    rw [this]; rfl
  · rw [if_neg (by simp [hc])]
    refine ⟨_, _, rfl, rfl, ⟨by decide, by decide⟩, ?_⟩
    refine ⟨d, L, rfl, hd, h8, fun kds hk => ?_⟩
    refine ⟨_, rfl, by decide, ringD K L, ⟨0, ?_⟩, p⟩
    have : clearB L = ((kds.any fun q => decide (q.1 = Sum.inl (L.sum / 2))) != true) := by
      unfold clearB
      rw [decide_eq_false hc, hk, Bool.bne_true]; rfl
    unfold ringD
    rw [this]; rfl
theorem cutD_map {L : List Int} {lo hi : Option Int} : cutD (L.map D.int) lo hi = (((L.drop (HT.sIx L.length 0 lo)).take (HT.sIx L.length L.length hi - HT.sIx L.length 0 lo))).map D.int := by
  unfold cutD
  rw [List.length_map, List.map_take, List.map_drop]
theorem cut_to {L : List Int} {b : Nat} (h : b ≤ L.length) : cutD (L.map D.int) none (some (b : Int)) = (L.take b).map D.int := by
  rw [cutD_map, HT.sIx_none, HT.sIx_nat, Nat.min_eq_left h]; rfl
theorem cut_from {L : List Int} {b : Nat} (h : b ≤ L.length) : cutD (L.map D.int) (some (b : Int)) none = (L.drop b).map D.int := by
  rw [cutD_map, HT.sIx_none, HT.sIx_nat, Nat.min_eq_left h, List.take_of_length_le (by rw [List.length_drop]; exact Nat.le_refl _)]
theorem cut_mid {L : List Int} {a b : Nat} (h : a ≤ L.length) (h' : b ≤ L.length) : cutD (L.map D.int) (some (a : Int)) (some (b : Int)) = ((L.drop a).take (b - a)).map D.int := by
  rw [cutD_map, HT.sIx_nat, HT.sIx_nat, Nat.min_eq_left h, Nat.min_eq_left h']
theorem make_ring {K : PySem.W.Frag} {d : D} {L : List Int} (hd : seqD d L) (ok : okL L) {P : D → Prop} {R : DX → D → Prop} (p : P (ringD K L)) : sp_Ring_init K [.obj (He.ga K "Ring") [], d] (fun d1 d2 => d1 = .non ∧ P d2) R :=
  ⟨d, L, rfl, hd, ok, rfl, p⟩
theorem len_Ring_begun_at (K : PySem.W.Frag) : ∀ ds P R, sp_Ring_begun_at K ds P R → ds.length = 2 := fun _ _ _ ⟨_, _, e, _⟩ => by rw [e]; rfl
theorem pu_Ring_begun_at (K : PySem.W.Frag) : ∀ ds (Po : D → D → Prop) (R : DX → D → Prop), sp_Ring_begun_at K ds Po R → B_Ring_begun_at K (en0 ["self", "bar"] ds) { nx := fun _ => Po .non .non, rt := fun d _ => Po d .non, xe := fun y _ => R y .non } := by
  rintro ds Po R ⟨L, b, rfl, ok, hb, p⟩
  have h8 := ok.hi
  have h3 := ok.lo
  simp only [B_Ring_begun_at, sSeq, sIf, sFor, sSet, sSetO, sRet, sRetN, sNx, sNo, sEx, sFz, sFq, sFldS, sSub, sApp, sExt, sDput, sDupd, sAsg, sParSS, sParSO, sParOS, sParOO, eV, eO, eC, eBin, eUn, eCall, eCallO', eCallO, eMake, eMeth, eCallR, eIf, eNot, eAnd, eOr, eTup, eLst, eIxO, ePop, eIndex, eD1, eSl, oNo, oIs, aNil, aCons, aStar, tV, uNot, uAnd, uOr, uYes, dI, dIs, DV.isNon, dLen, dInt, dAbs, dTuple, dNeg, dMax2, dMin2, gN, gT, gsN, ownD, putO, putFD, en0, en1, own0, List.map_cons, List.map_nil, List.replicate, List.cons.injEq, Nat.sub_self, Nat.reduceSub, Nat.reduceAdd, Bool.not_true, Bool.not_false,  List.length_cons, List.length_nil, List.getElem?_cons_zero, List.getElem?_cons_succ, List.set_cons_zero, List.set_cons_succ, List.cons_append, List.nil_append, Option.some.injEq, Sl.s.injEq, Sl.o.injEq, Sl.m.injEq, reduceCtorEq, D.int.injEq, D.bl.injEq, D.lst.injEq, D.tup.injEq, D.str.injEq, D.dic.injEq, D.obj.injEq, bne_self_eq_false, Bool.bne_true, Bool.bne_false, ite_true, ite_false, exists_eq_left', exists_eq_left, exists_eq_right, exists_eq', exists_and_left, exists_const, or_false, false_or, and_true, true_and, and_false, false_and, if_true, if_false, Bool.false_eq_true, fld_l]
  refine ⟨L, b, rfl, ok, by omega, by omega, ?_⟩
  simp only [dSlT, sSeq, sIf, sFor, sSet, sSetO, sRet, sRetN, sNx, sNo, sEx, sFz, sFq, sFldS, sSub, sApp, sExt, sDput, sDupd, sAsg, sParSS, sParSO, sParOS, sParOO, eV, eO, eC, eBin, eUn, eCall, eCallO', eCallO, eMake, eMeth, eCallR, eIf, eNot, eAnd, eOr, eTup, eLst, eIxO, ePop, eIndex, eD1, eSl, oNo, oIs, aNil, aCons, aStar, tV, uNot, uAnd, uOr, uYes, dI, dIs, DV.isNon, dLen, dInt, dAbs, dTuple, dNeg, dMax2, dMin2, gN, gT, gsN, ownD, putO, putFD, en0, en1, own0, List.map_cons, List.map_nil, List.replicate, List.cons.injEq, Nat.sub_self, Nat.reduceSub, Nat.reduceAdd, Bool.not_true, Bool.not_false,  List.length_cons, List.length_nil, List.getElem?_cons_zero, List.getElem?_cons_succ, List.set_cons_zero, List.set_cons_succ, List.cons_append, List.nil_append, Option.some.injEq, Sl.s.injEq, Sl.o.injEq, Sl.m.injEq, reduceCtorEq, D.int.injEq, D.bl.injEq, D.lst.injEq, D.tup.injEq, D.str.injEq, D.dic.injEq, D.obj.injEq, bne_self_eq_false, Bool.bne_true, Bool.bne_false, ite_true, ite_false, exists_eq_left', exists_eq_left, exists_eq_right, exists_eq', exists_and_left, exists_const, or_false, false_or, and_true, true_and, and_false, false_and, if_true, if_false, Bool.false_eq_true, fld_l, cut_to (Nat.le_of_lt hb), cut_from (Nat.le_of_lt hb), dAdd, List.length_map, ← List.map_append]
  refine ⟨sz (by rw [List.length_drop, List.length_take]; omega), make_ring (.inr rfl) ⟨?_, ?_, fun x hx => ?_⟩ p⟩
  · rw [List.length_append, List.length_drop, List.length_take]; omega
  · rw [List.length_append, List.length_drop, List.length_take]; omega
  · rcases List.mem_append.mp hx with h | h
    · exact ok.b x (List.mem_of_mem_drop h)
    · exact ok.b x (List.mem_of_mem_take h)
theorem len_Ring_backwards (K : PySem.W.Frag) : ∀ ds P R, sp_Ring_backwards K ds P R → ds.length = 1 := fun _ _ _ ⟨_, e, _⟩ => by rw [e]; rfl
theorem pu_Ring_backwards (K : PySem.W.Frag) : ∀ ds (Po : D → D → Prop) (R : DX → D → Prop), sp_Ring_backwards K ds Po R → B_Ring_backwards K (en0 ["self"] ds) { nx := fun _ => Po .non .non, rt := fun d _ => Po d .non, xe := fun y _ => R y .non } := by
  rintro ds Po R ⟨L, rfl, ok, p⟩
  have h8 := ok.hi
  have h3 := ok.lo
  have c1 : cutD (L.map D.int) none (some 1) = (L.take 1).map D.int := cut_to (b := 1) (by omega)
  simp only [B_Ring_backwards, sSeq, sIf, sFor, sSet, sSetO, sRet, sRetN, sNx, sNo, sEx, sFz, sFq, sFldS, sSub, sApp, sExt, sDput, sDupd, sAsg, sParSS, sParSO, sParOS, sParOO, eV, eO, eC, eBin, eUn, eCall, eCallO', eCallO, eMake, eMeth, eCallR, eIf, eNot, eAnd, eOr, eTup, eLst, eIxO, ePop, eIndex, eD1, eSl, oNo, oIs, aNil, aCons, aStar, tV, uNot, uAnd, uOr, uYes, dI, dIs, DV.isNon, dLen, dInt, dAbs, dTuple, dNeg, dMax2, dMin2, gN, gT, gsN, ownD, putO, putFD, en0, en1, own0, List.map_cons, List.map_nil, List.replicate, List.cons.injEq, Nat.sub_self, Nat.reduceSub, Nat.reduceAdd, Bool.not_true, Bool.not_false,  List.length_cons, List.length_nil, List.getElem?_cons_zero, List.getElem?_cons_succ, List.set_cons_zero, List.set_cons_succ, List.cons_append, List.nil_append, Option.some.injEq, Sl.s.injEq, Sl.o.injEq, Sl.m.injEq, reduceCtorEq, D.int.injEq, D.bl.injEq, D.lst.injEq, D.tup.injEq, D.str.injEq, D.dic.injEq, D.obj.injEq, bne_self_eq_false, Bool.bne_true, Bool.bne_false, ite_true, ite_false, exists_eq_left', exists_eq_left, exists_eq_right, exists_eq', exists_and_left, exists_const, or_false, false_or, and_true, true_and, and_false, false_and, if_true, if_false, Bool.false_eq_true, fld_l, dSlT, c1, dBack]
  refine ⟨fun e => by have := congrArg List.length e; simp at this; rw [this] at h3; simp at h3, ?_⟩
  rw [← List.map_drop, ← List.map_reverse]
  simp only [dAdd, List.length_map, ← List.map_append]
  refine ⟨sz (by rw [List.length_take, List.length_reverse, List.length_drop]; omega), make_ring (.inr rfl) ⟨?_, ?_, fun x hx => ?_⟩ p⟩
  · rw [List.length_append, List.length_take, List.length_reverse, List.length_drop]; omega
  · rw [List.length_append, List.length_take, List.length_reverse, List.length_drop]; omega
  · rcases List.mem_append.mp hx with h | h
    · exact ok.b x (List.mem_of_mem_take h)
    · exact ok.b x (List.mem_of_mem_drop (List.mem_reverse.mp h))
theorem gI_mem {L : List Int} {b : Int} (h0 : 0 ≤ b) (h1 : b < (L.length : Int)) : gI L b ∈ L := by
  have hn : b.toNat < L.length := by omega
  unfold gI
  rw [List.getD_eq_getElem?_getD, List.getElem?_eq_getElem hn]
  exact List.getElem_mem hn
theorem rgI_mem {n : Nat} {b : Int} : b ∈ rgI n ↔ 0 ≤ b ∧ b < (n : Int) := by
  unfold rgI
  rw [List.mem_map]
  constructor
  · rintro ⟨k, hk, rfl⟩
    have := List.mem_range.mp hk
    omega
  · rintro ⟨h0, h1⟩
    exact ⟨b.toNat, List.mem_range.mpr (by omega), by omega⟩
theorem rgI_len {n : Nat} : (rgI n).length = n := by unfold rgI; simp
theorem rgD_eq {n : Nat} : rgD 0 n = (rgI n).map D.int := by
  unfold rgD rgI
  rw [List.map_map]
  apply List.map_congr_left
  intro k _
  show D.int (0 + (k : Int)) = D.int (k : Int)
  rw [Int.zero_add]
theorem rgI_asc : ∀ {n : Nat}, (rgI n).Pairwise (· ≤ ·) := by
  intro n
  unfold rgI
  rw [List.pairwise_map]
  exact List.pairwise_lt_range.imp fun h => by omega
theorem perm_sorted_eq : ∀ {l m : List Int}, l.Perm m → l.Pairwise (· ≤ ·) → m.Pairwise (· ≤ ·) → l = m
  | [], m, h, _, _ => (List.Perm.nil_eq h)
  | x :: l, [], h, _, _ => absurd h.length_eq (by simp)
  | x :: l, y :: m, h, hl, hm => by
    have h1 : x ∈ y :: m := h.mem_iff.mp List.mem_cons_self
    have h2 : y ∈ x :: l := h.mem_iff.mpr List.mem_cons_self
    have e : x = y := by
      rcases List.mem_cons.mp h1 with e | h1
      · exact e
      · rcases List.mem_cons.mp h2 with e | h2
        · exact e.symm
        · have a := (List.pairwise_cons.mp hm).1 x h1
          have b := (List.pairwise_cons.mp hl).1 y h2
          omega
    subst e
    rw [perm_sorted_eq h.cons_inv (List.pairwise_cons.mp hl).2 (List.pairwise_cons.mp hm).2]
theorem len_Ring_in_order (K : PySem.W.Frag) : ∀ ds P R, sp_Ring_in_order K ds P R → ds.length = 2 := fun _ _ _ ⟨_, _, e, _⟩ => by rw [e]; rfl
theorem pu_Ring_in_order (K : PySem.W.Frag) : ∀ ds (Po : D → D → Prop) (R : DX → D → Prop), sp_Ring_in_order K ds Po R → B_Ring_in_order K (en0 ["self", "order", "bar"] ds) { nx := fun _ => Po .non .non, rt := fun d _ => Po d .non, xe := fun y _ => R y .non } := by
  rintro ds Po R ⟨L, o, rfl, ok, ho, p⟩
  have h8 := ok.hi
  have h3 := ok.lo
  have hlen : o.length = L.length := by rw [ho.length_eq, rgI_len]
  simp only [B_Ring_in_order, sSeq, sIf, sFor, sSet, sSetO, sRet, sRetN, sNx, sNo, sEx, sFz, sFq, sFldS, sSub, sApp, sExt, sDput, sDupd, sAsg, sParSS, sParSO, sParOS, sParOO, eV, eO, eC, eBin, eUn, eCall, eCallO', eCallO, eMake, eMeth, eCallR, eIf, eNot, eAnd, eOr, eTup, eLst, eIxO, ePop, eIndex, eD1, eSl, oNo, oIs, aNil, aCons, aStar, tV, uNot, uAnd, uOr, uYes, dI, dIs, DV.isNon, dLen, dInt, dAbs, dTuple, dNeg, dMax2, dMin2, gN, gT, gsN, ownD, putO, putFD, en0, en1, own0, List.map_cons, List.map_nil, List.replicate, List.cons.injEq, Nat.sub_self, Nat.reduceSub, Nat.reduceAdd, Bool.not_true, Bool.not_false,  List.length_cons, List.length_nil, List.getElem?_cons_zero, List.getElem?_cons_succ, List.set_cons_zero, List.set_cons_succ, List.cons_append, List.nil_append, Option.some.injEq, Sl.s.injEq, Sl.o.injEq, Sl.m.injEq, reduceCtorEq, D.int.injEq, D.bl.injEq, D.lst.injEq, D.tup.injEq, D.str.injEq, D.dic.injEq, D.obj.injEq, bne_self_eq_false, Bool.bne_true, Bool.bne_false, ite_true, ite_false, exists_eq_left', exists_eq_left, exists_eq_right, exists_eq', exists_and_left, exists_const, or_false, false_or, and_true, true_and, and_false, false_and, if_true, if_false, Bool.false_eq_true]
  refine ⟨dl o, o, rfl, .inl rfl, by omega, ?_⟩
  simp only [sSeq, sIf, sFor, sSet, sSetO, sRet, sRetN, sNx, sNo, sEx, sFz, sFq, sFldS, sSub, sApp, sExt, sDput, sDupd, sAsg, sParSS, sParSO, sParOS, sParOO, eV, eO, eC, eBin, eUn, eCall, eCallO', eCallO, eMake, eMeth, eCallR, eIf, eNot, eAnd, eOr, eTup, eLst, eIxO, ePop, eIndex, eD1, eSl, oNo, oIs, aNil, aCons, aStar, tV, uNot, uAnd, uOr, uYes, dI, dIs, DV.isNon, dLen, dInt, dAbs, dTuple, dNeg, dMax2, dMin2, gN, gT, gsN, ownD, putO, putFD, en0, en1, own0, List.map_cons, List.map_nil, List.replicate, List.cons.injEq, Nat.sub_self, Nat.reduceSub, Nat.reduceAdd, Bool.not_true, Bool.not_false,  List.length_cons, List.length_nil, List.getElem?_cons_zero, List.getElem?_cons_succ, List.set_cons_zero, List.set_cons_succ, List.cons_append, List.nil_append, Option.some.injEq, Sl.s.injEq, Sl.o.injEq, Sl.m.injEq, reduceCtorEq, D.int.injEq, D.bl.injEq, D.lst.injEq, D.tup.injEq, D.str.injEq, D.dic.injEq, D.obj.injEq, bne_self_eq_false, Bool.bne_true, Bool.bne_false, ite_true, ite_false, exists_eq_left', exists_eq_left, exists_eq_right, exists_eq', exists_and_left, exists_const, or_false, false_or, and_true, true_and, and_false, false_and, if_true, if_false, Bool.false_eq_true]
  refine ⟨o, rfl, fun o' h1 h2 => ?_⟩
  simp only [sSeq, sIf, sFor, sSet, sSetO, sRet, sRetN, sNx, sNo, sEx, sFz, sFq, sFldS, sSub, sApp, sExt, sDput, sDupd, sAsg, sParSS, sParSO, sParOS, sParOO, eV, eO, eC, eBin, eUn, eCall, eCallO', eCallO, eMake, eMeth, eCallR, eIf, eNot, eAnd, eOr, eTup, eLst, eIxO, ePop, eIndex, eD1, eSl, oNo, oIs, aNil, aCons, aStar, tV, uNot, uAnd, uOr, uYes, dI, dIs, DV.isNon, dLen, dInt, dAbs, dTuple, dNeg, dMax2, dMin2, gN, gT, gsN, ownD, putO, putFD, en0, en1, own0, List.map_cons, List.map_nil, List.replicate, List.cons.injEq, Nat.sub_self, Nat.reduceSub, Nat.reduceAdd, Bool.not_true, Bool.not_false,  List.length_cons, List.length_nil, List.getElem?_cons_zero, List.getElem?_cons_succ, List.set_cons_zero, List.set_cons_succ, List.cons_append, List.nil_append, Option.some.injEq, Sl.s.injEq, Sl.o.injEq, Sl.m.injEq, reduceCtorEq, D.int.injEq, D.bl.injEq, D.lst.injEq, D.tup.injEq, D.str.injEq, D.dic.injEq, D.obj.injEq, bne_self_eq_false, Bool.bne_true, Bool.bne_false, ite_true, ite_false, exists_eq_left', exists_eq_left, exists_eq_right, exists_eq', exists_and_left, exists_const, or_false, false_or, and_true, true_and, and_false, false_and, if_true, if_false, Bool.false_eq_true, fld_l, List.length_map, dRng]
  refine ⟨by omega, by omega, ?_⟩
  have eo : o' = rgI L.length := perm_sorted_eq (h1.trans ho) h2 rgI_asc
  have en : ((L.length : Int)).toNat = L.length := Int.toNat_natCast _
  rw [en, rgD_eq, eo]
  refine eq_dl ?_
  rw [decide_eq_true rfl]
  simp only [sSeq, sIf, sFor, sSet, sSetO, sRet, sRetN, sNx, sNo, sEx, sFz, sFq, sFldS, sSub, sApp, sExt, sDput, sDupd, sAsg, sParSS, sParSO, sParOS, sParOO, eV, eO, eC, eBin, eUn, eCall, eCallO', eCallO, eMake, eMeth, eCallR, eIf, eNot, eAnd, eOr, eTup, eLst, eIxO, ePop, eIndex, eD1, eSl, oNo, oIs, aNil, aCons, aStar, tV, uNot, uAnd, uOr, uYes, dI, dIs, DV.isNon, dLen, dInt, dAbs, dTuple, dNeg, dMax2, dMin2, gN, gT, gsN, ownD, putO, putFD, en0, en1, own0, List.map_cons, List.map_nil, List.replicate, List.cons.injEq, Nat.sub_self, Nat.reduceSub, Nat.reduceAdd, Bool.not_true, Bool.not_false,  List.length_cons, List.length_nil, List.getElem?_cons_zero, List.getElem?_cons_succ, List.set_cons_zero, List.set_cons_succ, List.cons_append, List.nil_append, Option.some.injEq, Sl.s.injEq, Sl.o.injEq, Sl.m.injEq, reduceCtorEq, D.int.injEq, D.bl.injEq, D.lst.injEq, D.tup.injEq, D.str.injEq, D.dic.injEq, D.obj.injEq, bne_self_eq_false, Bool.bne_true, Bool.bne_false, ite_true, ite_false, exists_eq_left', exists_eq_left, exists_eq_right, exists_eq', exists_and_left, exists_const, or_false, false_or, and_true, true_and, and_false, false_and, if_true, if_false, Bool.false_eq_true]
  refine eLc_p1 o D.int (fun x => [.s (ringD K L), .s (dl o), .s (.int x)]) (D.int ∘ gI L) (fun Q q => iLT_of (.inl rfl) (fun Q q => ⟨_, rfl, q⟩) q) (by simp [quiet]) (fun x _ Q q => q) (fun _ _ => rfl) (fun x hx Q q => ?_) (sz (by omega)) ?_
  · have hb := rgI_mem.mp (ho.mem_iff.mp hx)
    simp only [sSeq, sIf, sFor, sSet, sSetO, sRet, sRetN, sNx, sNo, sEx, sFz, sFq, sFldS, sSub, sApp, sExt, sDput, sDupd, sAsg, sParSS, sParSO, sParOS, sParOO, eV, eO, eC, eBin, eUn, eCall, eCallO', eCallO, eMake, eMeth, eCallR, eIf, eNot, eAnd, eOr, eTup, eLst, eIxO, ePop, eIndex, eD1, eSl, oNo, oIs, aNil, aCons, aStar, tV, uNot, uAnd, uOr, uYes, dI, dIs, DV.isNon, dLen, dInt, dAbs, dTuple, dNeg, dMax2, dMin2, gN, gT, gsN, ownD, putO, putFD, en0, en1, own0, List.map_cons, List.map_nil, List.replicate, List.cons.injEq, Nat.sub_self, Nat.reduceSub, Nat.reduceAdd, Bool.not_true, Bool.not_false,  List.length_cons, List.length_nil, List.getElem?_cons_zero, List.getElem?_cons_succ, List.set_cons_zero, List.set_cons_succ, List.cons_append, List.nil_append, Option.some.injEq, Sl.s.injEq, Sl.o.injEq, Sl.m.injEq, reduceCtorEq, D.int.injEq, D.bl.injEq, D.lst.injEq, D.tup.injEq, D.str.injEq, D.dic.injEq, D.obj.injEq, bne_self_eq_false, Bool.bne_true, Bool.bne_false, ite_true, ite_false, exists_eq_left', exists_eq_left, exists_eq_right, exists_eq', exists_and_left, exists_const, or_false, false_or, and_true, true_and, and_false, false_and, if_true, if_false, Bool.false_eq_true, fld_l]
    exact ix_t hb.1 hb.2 q
  · rw [← List.map_map]
    refine make_ring (.inl rfl) ⟨by rw [List.length_map]; omega, by rw [List.length_map]; omega, fun x hx => ?_⟩ p
    obtain ⟨b, hb, rfl⟩ := List.mem_map.mp hx
    have hb := rgI_mem.mp (ho.mem_iff.mp hb)
    exact ok.b _ (gI_mem hb.1 hb.2)
end KT

set_option Elab.async false
set_option linter.all false
set_option maxRecDepth 100000
set_option maxHeartbeats 4000000
/-! The pure part: bars put together, in two. -/
namespace KT
open PySem L2 DV
theorem asOne_len {L : List Int} {b : Nat} (h : b < L.length) (h4 : 4 ≤ L.length) : (asOne L b).length = L.length - 1 := by
  unfold asOne
  split
  · rw [List.length_cons, List.length_take, List.length_drop]; omega
  · rw [List.length_append, List.length_take, List.length_cons, List.length_drop]; omega
theorem asOne_ok {L : List Int} {b : Nat} (ok : okL L) (h : b < L.length) (h4 : 4 ≤ L.length) (hx : ∀ x ∈ L, x ≤ 500000) : okL (asOne L b) := by
  have h8 := ok.hi
  refine ⟨by rw [asOne_len h h4]; omega, by rw [asOne_len h h4]; omega, fun x hm => ?_⟩
  have two : ∀ i j : Int, 0 ≤ i → i < (L.length : Int) → 0 ≤ j → j < (L.length : Int) → 1 ≤ gI L i + gI L j ∧ gI L i + gI L j ≤ 1000000 := fun i j i0 i1 j0 j1 => by
    have m1 := gI_mem i0 i1
    have m2 := gI_mem j0 j1
    have a1 := ok.b _ m1
    have a2 := ok.b _ m2
    have c1 := hx _ m1
    have c2 := hx _ m2
    omega
  unfold asOne at hm
  split at hm
  · rcases List.mem_cons.mp hm with e | hm
    · rw [e]; exact two _ _ (by omega) (by omega) (by omega) (by omega)
    · exact ok.b x (List.mem_of_mem_drop (List.mem_of_mem_take hm))
  · rcases List.mem_append.mp hm with hm | hm
    · exact ok.b x (List.mem_of_mem_take hm)
    · rcases List.mem_cons.mp hm with e | hm
      · rw [e]; exact two _ _ (by omega) (by omega) (by omega) (by omega)
      · exact ok.b x (List.mem_of_mem_drop hm)
theorem len_Ring_as_one (K : PySem.W.Frag) : ∀ ds P R, sp_Ring_as_one K ds P R → ds.length = 2 := fun _ _ _ ⟨_, _, e, _⟩ => by rw [e]; rfl
theorem pu_Ring_as_one (K : PySem.W.Frag) : ∀ ds (Po : D → D → Prop) (R : DX → D → Prop), sp_Ring_as_one K ds Po R → B_Ring_as_one K (en0 ["self", "bar", "both"] ds) { nx := fun _ => Po .non .non, rt := fun d _ => Po d .non, xe := fun y _ => R y .non } := by
  rintro ds Po R ⟨L, b, rfl, ok, h4, hx, hb, p⟩
  have h8 := ok.hi
  have ok' := asOne_ok ok hb h4 hx
  have hl' := asOne_len hb h4
  simp only [B_Ring_as_one, sSeq, sIf, sFor, sSet, sSetO, sRet, sRetN, sNx, sNo, sEx, sFz, sFq, sFldS, sSub, sApp, sExt, sDput, sDupd, sAsg, sParSS, sParSO, sParOS, sParOO, eV, eO, eC, eBin, eUn, eCall, eCallO', eCallO, eMake, eMeth, eCallR, eIf, eNot, eAnd, eOr, eTup, eLst, eIxO, ePop, eIndex, eD1, eSl, oNo, oIs, aNil, aCons, aStar, tV, uNot, uAnd, uOr, uYes, dI, dIs, DV.isNon, dLen, dInt, dAbs, dTuple, dNeg, dMax2, dMin2, gN, gT, gsN, ownD, putO, putFD, en0, en1, own0, List.map_cons, List.map_nil, List.replicate, List.cons.injEq, Nat.sub_self, Nat.reduceSub, Nat.reduceAdd, Bool.not_true, Bool.not_false,  List.length_cons, List.length_nil, List.getElem?_cons_zero, List.getElem?_cons_succ, List.set_cons_zero, List.set_cons_succ, List.cons_append, List.nil_append, Option.some.injEq, Sl.s.injEq, Sl.o.injEq, Sl.m.injEq, reduceCtorEq, D.int.injEq, D.bl.injEq, D.lst.injEq, D.tup.injEq, D.str.injEq, D.dic.injEq, D.obj.injEq, bne_self_eq_false, Bool.bne_true, Bool.bne_false, ite_true, ite_false, exists_eq_left', exists_eq_left, exists_eq_right, exists_eq', exists_and_left, exists_const, or_false, false_or, and_true, true_and, and_false, false_and, if_true, if_false, Bool.false_eq_true, fld_l, dLen, List.length_map, eq_ii]
  refine ⟨L, b, rfl, ok, by omega, by omega, ?_⟩
  simp only [sSeq, sIf, sFor, sSet, sSetO, sRet, sRetN, sNx, sNo, sEx, sFz, sFq, sFldS, sSub, sApp, sExt, sDput, sDupd, sAsg, sParSS, sParSO, sParOS, sParOO, eV, eO, eC, eBin, eUn, eCall, eCallO', eCallO, eMake, eMeth, eCallR, eIf, eNot, eAnd, eOr, eTup, eLst, eIxO, ePop, eIndex, eD1, eSl, oNo, oIs, aNil, aCons, aStar, tV, uNot, uAnd, uOr, uYes, dI, dIs, DV.isNon, dLen, dInt, dAbs, dTuple, dNeg, dMax2, dMin2, gN, gT, gsN, ownD, putO, putFD, en0, en1, own0, List.map_cons, List.map_nil, List.replicate, List.cons.injEq, Nat.sub_self, Nat.reduceSub, Nat.reduceAdd, Bool.not_true, Bool.not_false,  List.length_cons, List.length_nil, List.getElem?_cons_zero, List.getElem?_cons_succ, List.set_cons_zero, List.set_cons_succ, List.cons_append, List.nil_append, Option.some.injEq, Sl.s.injEq, Sl.o.injEq, Sl.m.injEq, reduceCtorEq, D.int.injEq, D.bl.injEq, D.lst.injEq, D.tup.injEq, D.str.injEq, D.dic.injEq, D.obj.injEq, bne_self_eq_false, Bool.bne_true, Bool.bne_false, ite_true, ite_false, exists_eq_left', exists_eq_left, exists_eq_right, exists_eq', exists_and_left, exists_const, or_false, false_or, and_true, true_and, and_false, false_and, if_true, if_false, Bool.false_eq_true, fld_l, dLen, List.length_map, eq_ii]
  by_cases hc : (b : Int) = (L.length : Int) - 1
  · rw [if_pos (decide_eq_true hc)]
    refine ix_t (by omega) (by omega) ?_
    refine ix_t (by omega) (by omega) ?_
    have c1 : cutD (L.map D.int) (some 1) (some (b : Int)) = ((L.drop 1).take (b - 1)).map D.int := cut_mid (a := 1) (by omega) (by omega)
    simp only [dAdd, dSlT, sSeq, sIf, sFor, sSet, sSetO, sRet, sRetN, sNx, sNo, sEx, sFz, sFq, sFldS, sSub, sApp, sExt, sDput, sDupd, sAsg, sParSS, sParSO, sParOS, sParOO, eV, eO, eC, eBin, eUn, eCall, eCallO', eCallO, eMake, eMeth, eCallR, eIf, eNot, eAnd, eOr, eTup, eLst, eIxO, ePop, eIndex, eD1, eSl, oNo, oIs, aNil, aCons, aStar, tV, uNot, uAnd, uOr, uYes, dI, dIs, DV.isNon, dLen, dInt, dAbs, dTuple, dNeg, dMax2, dMin2, gN, gT, gsN, ownD, putO, putFD, en0, en1, own0, List.map_cons, List.map_nil, List.replicate, List.cons.injEq, Nat.sub_self, Nat.reduceSub, Nat.reduceAdd, Bool.not_true, Bool.not_false,  List.length_cons, List.length_nil, List.getElem?_cons_zero, List.getElem?_cons_succ, List.set_cons_zero, List.set_cons_succ, List.cons_append, List.nil_append, Option.some.injEq, Sl.s.injEq, Sl.o.injEq, Sl.m.injEq, reduceCtorEq, D.int.injEq, D.bl.injEq, D.lst.injEq, D.tup.injEq, D.str.injEq, D.dic.injEq, D.obj.injEq, bne_self_eq_false, Bool.bne_true, Bool.bne_false, ite_true, ite_false, exists_eq_left', exists_eq_left, exists_eq_right, exists_eq', exists_and_left, exists_const, or_false, false_or, and_true, true_and, and_false, false_and, if_true, if_false, Bool.false_eq_true, c1]
    have e : D.lst (D.int (gI L ↑b + gI L 0) :: (List.map D.int (List.take (b - 1) (List.drop 1 L)) ++ [])) = dl (asOne L b) := by
      unfold asOne
      rw [if_pos (by omega), List.append_nil]; rfl
    rw [e]
    refine ⟨sz ?_, make_ring (.inl rfl) ok' ?_⟩
    · simp; omega
    · exact p
  · rw [if_neg (by simp [hc])]
    refine ix_t (by omega) (by omega) ?_
    refine ix_t (by omega) (by omega) ?_
    have c1 := cut_to (L := L) (b := b) (by omega)
    have c2 : cutD (L.map D.int) (some ((b : Int) + 2)) none = (L.drop (b + 2)).map D.int := cut_from (L := L) (b := b + 2) (by omega)
    simp only [dAdd, dSlT, sSeq, sIf, sFor, sSet, sSetO, sRet, sRetN, sNx, sNo, sEx, sFz, sFq, sFldS, sSub, sApp, sExt, sDput, sDupd, sAsg, sParSS, sParSO, sParOS, sParOO, eV, eO, eC, eBin, eUn, eCall, eCallO', eCallO, eMake, eMeth, eCallR, eIf, eNot, eAnd, eOr, eTup, eLst, eIxO, ePop, eIndex, eD1, eSl, oNo, oIs, aNil, aCons, aStar, tV, uNot, uAnd, uOr, uYes, dI, dIs, DV.isNon, dLen, dInt, dAbs, dTuple, dNeg, dMax2, dMin2, gN, gT, gsN, ownD, putO, putFD, en0, en1, own0, List.map_cons, List.map_nil, List.replicate, List.cons.injEq, Nat.sub_self, Nat.reduceSub, Nat.reduceAdd, Bool.not_true, Bool.not_false,  List.length_cons, List.length_nil, List.getElem?_cons_zero, List.getElem?_cons_succ, List.set_cons_zero, List.set_cons_succ, List.cons_append, List.nil_append, Option.some.injEq, Sl.s.injEq, Sl.o.injEq, Sl.m.injEq, reduceCtorEq, D.int.injEq, D.bl.injEq, D.lst.injEq, D.tup.injEq, D.str.injEq, D.dic.injEq, D.obj.injEq, bne_self_eq_false, Bool.bne_true, Bool.bne_false, ite_true, ite_false, exists_eq_left', exists_eq_left, exists_eq_right, exists_eq', exists_and_left, exists_const, or_false, false_or, and_true, true_and, and_false, false_and, if_true, if_false, Bool.false_eq_true, c1, c2, fld_l]
    have e : D.lst (List.map D.int (List.take b L) ++ D.int (gI L ↑b + gI L (↑b + 1)) :: (List.map D.int (List.drop (b + 2) L) ++ [])) = dl (asOne L b) := by
      unfold asOne
      rw [if_neg (by omega), List.append_nil]
      simp
    rw [e]
    refine ⟨sz ?_, make_ring (.inl rfl) ok' ?_⟩
    · simp; omega
    · exact p
theorem inTwo_len {L : List Int} {b : Nat} {x : Int} (h : b < L.length) : (inTwo L b x).length = L.length + 1 := by
  unfold inTwo
  rw [List.length_append, List.length_take, List.length_cons, List.length_cons, List.length_drop]; omega
theorem inTwo_ok {L : List Int} {b : Nat} {x : Int} (ok : okL L) (h7 : L.length ≤ 7) (h : b < L.length) (h1 : 1 ≤ x) (h2 : x < gI L (b : Int)) : okL (inTwo L b x) := by
  have h3 := ok.lo
  have m1 := ok.b _ (gI_mem (L := L) (b := (b : Int)) (by omega) (by omega))
  refine ⟨by rw [inTwo_len h]; omega, by rw [inTwo_len h]; omega, fun y hm => ?_⟩
  unfold inTwo at hm
  rcases List.mem_append.mp hm with hm | hm
  · exact ok.b y (List.mem_of_mem_take hm)
  · rcases List.mem_cons.mp hm with e | hm
    · omega
    · rcases List.mem_cons.mp hm with e | hm
      · omega
      · exact ok.b y (List.mem_of_mem_drop hm)
theorem len_Ring_in_two (K : PySem.W.Frag) : ∀ ds P R, sp_Ring_in_two K ds P R → ds.length = 3 := fun _ _ _ ⟨_, _, _, e, _⟩ => by rw [e]; rfl
theorem pu_Ring_in_two (K : PySem.W.Frag) : ∀ ds (Po : D → D → Prop) (R : DX → D → Prop), sp_Ring_in_two K ds Po R → B_Ring_in_two K (en0 ["self", "bar", "length"] ds) { nx := fun _ => Po .non .non, rt := fun d _ => Po d .non, xe := fun y _ => R y .non } := by
  rintro ds Po R ⟨L, b, x, rfl, ok, h7, hb, h1, h2, p⟩
  have ok' := inTwo_ok ok h7 hb h1 h2
  simp only [B_Ring_in_two, sSeq, sIf, sFor, sSet, sSetO, sRet, sRetN, sNx, sNo, sEx, sFz, sFq, sFldS, sSub, sApp, sExt, sDput, sDupd, sAsg, sParSS, sParSO, sParOS, sParOO, eV, eO, eC, eBin, eUn, eCall, eCallO', eCallO, eMake, eMeth, eCallR, eIf, eNot, eAnd, eOr, eTup, eLst, eIxO, ePop, eIndex, eD1, eSl, oNo, oIs, aNil, aCons, aStar, tV, uNot, uAnd, uOr, uYes, dI, dIs, DV.isNon, dLen, dInt, dAbs, dTuple, dNeg, dMax2, dMin2, gN, gT, gsN, ownD, putO, putFD, en0, en1, own0, List.map_cons, List.map_nil, List.replicate, List.cons.injEq, Nat.sub_self, Nat.reduceSub, Nat.reduceAdd, Bool.not_true, Bool.not_false,  List.length_cons, List.length_nil, List.getElem?_cons_zero, List.getElem?_cons_succ, List.set_cons_zero, List.set_cons_succ, List.cons_append, List.nil_append, Option.some.injEq, Sl.s.injEq, Sl.o.injEq, Sl.m.injEq, reduceCtorEq, D.int.injEq, D.bl.injEq, D.lst.injEq, D.tup.injEq, D.str.injEq, D.dic.injEq, D.obj.injEq, bne_self_eq_false, Bool.bne_true, Bool.bne_false, ite_true, ite_false, exists_eq_left', exists_eq_left, exists_eq_right, exists_eq', exists_and_left, exists_const, or_false, false_or, and_true, true_and, and_false, false_and, if_true, if_false, Bool.false_eq_true, fld_l]
  refine ⟨L, b, rfl, ok, by omega, by omega, ?_⟩
  simp only [sSeq, sIf, sFor, sSet, sSetO, sRet, sRetN, sNx, sNo, sEx, sFz, sFq, sFldS, sSub, sApp, sExt, sDput, sDupd, sAsg, sParSS, sParSO, sParOS, sParOO, eV, eO, eC, eBin, eUn, eCall, eCallO', eCallO, eMake, eMeth, eCallR, eIf, eNot, eAnd, eOr, eTup, eLst, eIxO, ePop, eIndex, eD1, eSl, oNo, oIs, aNil, aCons, aStar, tV, uNot, uAnd, uOr, uYes, dI, dIs, DV.isNon, dLen, dInt, dAbs, dTuple, dNeg, dMax2, dMin2, gN, gT, gsN, ownD, putO, putFD, en0, en1, own0, List.map_cons, List.map_nil, List.replicate, List.cons.injEq, Nat.sub_self, Nat.reduceSub, Nat.reduceAdd, Bool.not_true, Bool.not_false,  List.length_cons, List.length_nil, List.getElem?_cons_zero, List.getElem?_cons_succ, List.set_cons_zero, List.set_cons_succ, List.cons_append, List.nil_append, Option.some.injEq, Sl.s.injEq, Sl.o.injEq, Sl.m.injEq, reduceCtorEq, D.int.injEq, D.bl.injEq, D.lst.injEq, D.tup.injEq, D.str.injEq, D.dic.injEq, D.obj.injEq, bne_self_eq_false, Bool.bne_true, Bool.bne_false, ite_true, ite_false, exists_eq_left', exists_eq_left, exists_eq_right, exists_eq', exists_and_left, exists_const, or_false, false_or, and_true, true_and, and_false, false_and, if_true, if_false, Bool.false_eq_true, fld_l]
  refine ix_t (by omega) (by omega) ?_
  simp only [sSeq, sIf, sFor, sSet, sSetO, sRet, sRetN, sNx, sNo, sEx, sFz, sFq, sFldS, sSub, sApp, sExt, sDput, sDupd, sAsg, sParSS, sParSO, sParOS, sParOO, eV, eO, eC, eBin, eUn, eCall, eCallO', eCallO, eMake, eMeth, eCallR, eIf, eNot, eAnd, eOr, eTup, eLst, eIxO, ePop, eIndex, eD1, eSl, oNo, oIs, aNil, aCons, aStar, tV, uNot, uAnd, uOr, uYes, dI, dIs, DV.isNon, dLen, dInt, dAbs, dTuple, dNeg, dMax2, dMin2, gN, gT, gsN, ownD, putO, putFD, en0, en1, own0, List.map_cons, List.map_nil, List.replicate, List.cons.injEq, Nat.sub_self, Nat.reduceSub, Nat.reduceAdd, Bool.not_true, Bool.not_false,  List.length_cons, List.length_nil, List.getElem?_cons_zero, List.getElem?_cons_succ, List.set_cons_zero, List.set_cons_succ, List.cons_append, List.nil_append, Option.some.injEq, Sl.s.injEq, Sl.o.injEq, Sl.m.injEq, reduceCtorEq, D.int.injEq, D.bl.injEq, D.lst.injEq, D.tup.injEq, D.str.injEq, D.dic.injEq, D.obj.injEq, bne_self_eq_false, Bool.bne_true, Bool.bne_false, ite_true, ite_false, exists_eq_left', exists_eq_left, exists_eq_right, exists_eq', exists_and_left, exists_const, or_false, false_or, and_true, true_and, and_false, false_and, if_true, if_false, Bool.false_eq_true]
  refine ⟨x, 1, gI L (b : Int) - 1, rfl, ?_⟩
  have e : (decide ((1 : Int) ≤ x) && decide (x ≤ gI L (b : Int) - 1)) = true := by simp; omega
  rw [e]
  have c1 := cut_to (L := L) (b := b) (by omega)
  have c2 : cutD (L.map D.int) (some ((b : Int) + 1)) none = (L.drop (b + 1)).map D.int := cut_from (L := L) (b := b + 1) (by omega)
  simp only [dAdd, dSlT, sSeq, sIf, sFor, sSet, sSetO, sRet, sRetN, sNx, sNo, sEx, sFz, sFq, sFldS, sSub, sApp, sExt, sDput, sDupd, sAsg, sParSS, sParSO, sParOS, sParOO, eV, eO, eC, eBin, eUn, eCall, eCallO', eCallO, eMake, eMeth, eCallR, eIf, eNot, eAnd, eOr, eTup, eLst, eIxO, ePop, eIndex, eD1, eSl, oNo, oIs, aNil, aCons, aStar, tV, uNot, uAnd, uOr, uYes, dI, dIs, DV.isNon, dLen, dInt, dAbs, dTuple, dNeg, dMax2, dMin2, gN, gT, gsN, ownD, putO, putFD, en0, en1, own0, List.map_cons, List.map_nil, List.replicate, List.cons.injEq, Nat.sub_self, Nat.reduceSub, Nat.reduceAdd, Bool.not_true, Bool.not_false,  List.length_cons, List.length_nil, List.getElem?_cons_zero, List.getElem?_cons_succ, List.set_cons_zero, List.set_cons_succ, List.cons_append, List.nil_append, Option.some.injEq, Sl.s.injEq, Sl.o.injEq, Sl.m.injEq, reduceCtorEq, D.int.injEq, D.bl.injEq, D.lst.injEq, D.tup.injEq, D.str.injEq, D.dic.injEq, D.obj.injEq, bne_self_eq_false, Bool.bne_true, Bool.bne_false, ite_true, ite_false, exists_eq_left', exists_eq_left, exists_eq_right, exists_eq', exists_and_left, exists_const, or_false, false_or, and_true, true_and, and_false, false_and, if_true, if_false, Bool.false_eq_true, c1, c2, fld_l]
  refine ix_t (by omega) (by omega) ?_
  have e : D.lst (List.map D.int (List.take b L) ++ D.int x :: D.int (gI L ↑b - x) :: (List.map D.int (List.drop (b + 1) L) ++ [])) = dl (inTwo L b x) := by
    unfold inTwo
    rw [List.append_nil]
    simp
  simp only [sSeq, sIf, sFor, sSet, sSetO, sRet, sRetN, sNx, sNo, sEx, sFz, sFq, sFldS, sSub, sApp, sExt, sDput, sDupd, sAsg, sParSS, sParSO, sParOS, sParOO, eV, eO, eC, eBin, eUn, eCall, eCallO', eCallO, eMake, eMeth, eCallR, eIf, eNot, eAnd, eOr, eTup, eLst, eIxO, ePop, eIndex, eD1, eSl, oNo, oIs, aNil, aCons, aStar, tV, uNot, uAnd, uOr, uYes, dI, dIs, DV.isNon, dLen, dInt, dAbs, dTuple, dNeg, dMax2, dMin2, gN, gT, gsN, ownD, putO, putFD, en0, en1, own0, List.map_cons, List.map_nil, List.replicate, List.cons.injEq, Nat.sub_self, Nat.reduceSub, Nat.reduceAdd, Bool.not_true, Bool.not_false,  List.length_cons, List.length_nil, List.getElem?_cons_zero, List.getElem?_cons_succ, List.set_cons_zero, List.set_cons_succ, List.cons_append, List.nil_append, Option.some.injEq, Sl.s.injEq, Sl.o.injEq, Sl.m.injEq, reduceCtorEq, D.int.injEq, D.bl.injEq, D.lst.injEq, D.tup.injEq, D.str.injEq, D.dic.injEq, D.obj.injEq, bne_self_eq_false, Bool.bne_true, Bool.bne_false, ite_true, ite_false, exists_eq_left', exists_eq_left, exists_eq_right, exists_eq', exists_and_left, exists_const, or_false, false_or, and_true, true_and, and_false, false_and, if_true, if_false, Bool.false_eq_true]
  rw [e]
  refine ⟨sz ?_, make_ring (.inl rfl) ok' p⟩
  simp; omega
end KT

set_option Elab.async false
set_option linter.all false
set_option maxRecDepth 100000
set_option maxHeartbeats 4000000
/-! The pure part: the pen. -/
namespace KT
open PySem L2 DV
theorem at3_0 {x y z : D} : atI [x, y, z] (0 : Int) = some x := rfl
theorem at3_1 {x y z : D} : atI [x, y, z] (1 : Int) = some y := rfl
theorem at3_2 {x y z : D} : atI [x, y, z] (2 : Int) = some z := rfl
theorem ix3_1 : ixN 3 (1 : Int) = some 1 := rfl
theorem ix3_2 : ixN 3 (2 : Int) = some 2 := rfl
theorem cut_to' {L : List Int} {b : Nat} : cutD (L.map D.int) none (some (b : Int)) = (L.take b).map D.int := by
  rw [cutD_map, HT.sIx_none, HT.sIx_nat]
  show ((L.drop 0).take (min b L.length - 0)).map D.int = _
  rw [List.drop_zero, Nat.sub_zero, ← List.take_eq_take_min]
theorem len__law_pen (K : PySem.W.Frag) : ∀ ds P R, sp__law_pen K ds P R → ds.length = 1 := fun _ _ _ ⟨_, e, _⟩ => by rw [e]; rfl
theorem pu__law_pen (K : PySem.W.Frag) : ∀ ds (Po : D → D → Prop) (R : DX → D → Prop), sp__law_pen K ds Po R → B__law_pen K (en0 ["_law_script", "_law_cell"] ds) (fun d _ => Po d .non) (fun y _ => R y .non) := by
  rintro ds Po R ⟨ns, rfl, hl, p⟩
  simp only [B__law_pen, sSeq, sIf, sFor, sSet, sSetO, sRet, sRetN, sNx, sNo, sEx, sFz, sFq, sFldS, sSub, sApp, sExt, sDput, sDupd, sAsg, sParSS, sParSO, sParOS, sParOO, eV, eO, eC, eBin, eUn, eCall, eCallO', eCallO, eMake, eMeth, eCallR, eIf, eNot, eAnd, eOr, eTup, eLst, eIxO, ePop, eIndex, eD1, eSl, oNo, oIs, aNil, aCons, aStar, tV, uNot, uAnd, uOr, uYes, dI, dIs, DV.isNon, dLen, dTuple, dNeg, dMax2, dMin2, gN, gT, gsN, ownD, putO, putFD, en0, en1, own0, List.map_cons, List.map_nil, List.replicate, List.cons.injEq, Nat.sub_self, Nat.reduceSub, Nat.reduceAdd, Bool.not_true, Bool.not_false,  List.length_cons, List.length_nil, List.getElem?_cons_zero, List.getElem?_cons_succ, List.set_cons_zero, List.set_cons_succ, List.cons_append, List.nil_append, Option.some.injEq, Sl.s.injEq, Sl.o.injEq, Sl.m.injEq, reduceCtorEq, D.int.injEq, D.bl.injEq, D.lst.injEq, D.tup.injEq, D.str.injEq, D.dic.injEq, D.obj.injEq, bne_self_eq_false, Bool.bne_true, Bool.bne_false, ite_true, ite_false, exists_eq_left', exists_eq_left, exists_eq_right, exists_eq', exists_and_left, exists_const, or_false, false_or, and_true, true_and, and_false, false_and, if_true, if_false, Bool.false_eq_true]
  have c1 : cutD (ns.map D.int) none (some 60) = (ns.take 60).map D.int := cut_to' (b := 60)
  refine eLc_p1 (ns.take 60) D.int (fun x => [.s (.scr ns), .s (.int x)]) D.int (fun Q q => iLT_of (d := dl (ns.take 60)) (.inl rfl) (fun Q q => ?_) q) (by simp [quiet]) (fun x _ Q q => q) (fun _ _ => rfl) (fun x hx Q q => ?_) (sz (by rw [List.length_take]; omega)) ?_
  · simp only [sSeq, sIf, sFor, sSet, sSetO, sRet, sRetN, sNx, sNo, sEx, sFz, sFq, sFldS, sSub, sApp, sExt, sDput, sDupd, sAsg, sParSS, sParSO, sParOS, sParOO, eV, eO, eC, eBin, eUn, eCall, eCallO', eCallO, eMake, eMeth, eCallR, eIf, eNot, eAnd, eOr, eTup, eLst, eIxO, ePop, eIndex, eD1, eSl, oNo, oIs, aNil, aCons, aStar, tV, uNot, uAnd, uOr, uYes, dI, dIs, DV.isNon, dLen, dTuple, dNeg, dMax2, dMin2, gN, gT, gsN, ownD, putO, putFD, en0, en1, own0, List.map_cons, List.map_nil, List.replicate, List.cons.injEq, Nat.sub_self, Nat.reduceSub, Nat.reduceAdd, Bool.not_true, Bool.not_false,  List.length_cons, List.length_nil, List.getElem?_cons_zero, List.getElem?_cons_succ, List.set_cons_zero, List.set_cons_succ, List.cons_append, List.nil_append, Option.some.injEq, Sl.s.injEq, Sl.o.injEq, Sl.m.injEq, reduceCtorEq, D.int.injEq, D.bl.injEq, D.lst.injEq, D.tup.injEq, D.str.injEq, D.dic.injEq, D.obj.injEq, bne_self_eq_false, Bool.bne_true, Bool.bne_false, ite_true, ite_false, exists_eq_left', exists_eq_left, exists_eq_right, exists_eq', exists_and_left, exists_const, or_false, false_or, and_true, true_and, and_false, false_and, if_true, if_false, Bool.false_eq_true, dSlL, c1]; exact q
  · simp only [sSeq, sIf, sFor, sSet, sSetO, sRet, sRetN, sNx, sNo, sEx, sFz, sFq, sFldS, sSub, sApp, sExt, sDput, sDupd, sAsg, sParSS, sParSO, sParOS, sParOO, eV, eO, eC, eBin, eUn, eCall, eCallO', eCallO, eMake, eMeth, eCallR, eIf, eNot, eAnd, eOr, eTup, eLst, eIxO, ePop, eIndex, eD1, eSl, oNo, oIs, aNil, aCons, aStar, tV, uNot, uAnd, uOr, uYes, dI, dIs, DV.isNon, dLen, dTuple, dNeg, dMax2, dMin2, gN, gT, gsN, ownD, putO, putFD, en0, en1, own0, List.map_cons, List.map_nil, List.replicate, List.cons.injEq, Nat.sub_self, Nat.reduceSub, Nat.reduceAdd, Bool.not_true, Bool.not_false,  List.length_cons, List.length_nil, List.getElem?_cons_zero, List.getElem?_cons_succ, List.set_cons_zero, List.set_cons_succ, List.cons_append, List.nil_append, Option.some.injEq, Sl.s.injEq, Sl.o.injEq, Sl.m.injEq, reduceCtorEq, D.int.injEq, D.bl.injEq, D.lst.injEq, D.tup.injEq, D.str.injEq, D.dic.injEq, D.obj.injEq, bne_self_eq_false, Bool.bne_true, Bool.bne_false, ite_true, ite_false, exists_eq_left', exists_eq_left, exists_eq_right, exists_eq', exists_and_left, exists_const, or_false, false_or, and_true, true_and, and_false, false_and, if_true, if_false, Bool.false_eq_true]; exact q
  · exact ⟨by decide, p⟩
def tail6 : DS := (sSeq (sSet 6 (eBin dMod (eUn dInt (eBin dPow (eBin dAdd (eBin dAdd (eBin dMod (eUn dInt (eO 4)) (eC (.int 2147483543))) (eBin dMul (eC (.int 59333)) (eV 3))) (eC (.int 2539))) (eC (.int 5)))) (eC (.int 2147483629)))) (sSeq (sSet 6 (eBin dMod (eUn dInt (eBin dPow (eBin dAdd (eBin dAdd (eBin dMul (eV 6) (eBin dAdd (eBin dMul (eC (.int 2)) (eV 3)) (eC (.int 2137)))) (eBin dMul (eBin dMul (eC (.int 57037)) (eV 3)) (eV 3))) (eC (.int 2539))) (eC (.int 3)))) (eC (.int 2147483647)))) (sRet (eBin dMod (eUn dInt (eBin dFdiv (eV 6) (eC (.int 64)))) (eV 1)))))
theorem draw_eq (K : PySem.W.Frag) : B__law_draw K = (sSeq (sIf (tV (eBin dGt (eIxO 0 (eC (.int 2))) (eC (.int 0)))) (sSeq (sSet 2 (eBin dMod (eUn dInt (eIxO 0 (eC (.int 2)))) (eV 1))) (sSeq (sSub 0 (eBin dFdiv (eUn dInt (eIxO 0 (eC (.int 2)))) (eV 1)) (eC (.int 2))) (sRet (eV 2)))) sNx) (sSeq (sSet 3 (eIxO 0 (eC (.int 1)))) (sSeq (sSub 0 (eBin dAdd (eV 3) (eC (.int 1))) (eC (.int 1))) (sSeq (sSet 4 (eBin dAdd (eBin dMul (eC (.int 59333)) (eV 3)) (eC (.int 2539)))) (sSeq (sIf (tV (eBin (dEq true) (eIxO 0 (eC (.int 0))) (eLst aNil))) (sSet 4 (eBin dIx (eIxO 0 (eC (.int 0))) (eBin dMod (eUn dInt (eO 3)) (eUn dLen (eIxO 0 (eC (.int 0))))))) sNx) (sSeq (sIf (uAnd (tV (eBin dLt (eV 3) (eUn dLen (eIxO 0 (eC (.int 0)))))) (tV (eBin dGe (eUn dAbs (eO 4)) (eBin dPow (eC (.int 10)) (eC (.int 18)))))) (sSeq (sSet 5 (eBin dAdd (eBin dMul (eC (.int 2)) (eBin dSub (eUn dAbs (eO 4)) (eBin dPow (eC (.int 10)) (eC (.int 18))))) (eUn dInt (eBin dLt (eV 4) (eC (.int 0)))))) (sSeq (sSub 0 (eBin dFdiv (eUn dInt (eO 5)) (eV 1)) (eC (.int 2))) (sRet (eBin dMod (eUn dInt (eO 5)) (eV 1))))) sNx) tail6)))))) := rfl
theorem dInt_i {i : Int} {P : D → Prop} : dInt (.int i) P ↔ P (.int i) := Iff.rfl
theorem dInt_b {b : Bool} {P : D → Prop} : dInt (.bl b) P ↔ P (.int (if b then 1 else 0)) := Iff.rfl
theorem dAbs_i {i : Int} {P : D → Prop} : dAbs (.int i) P ↔ P (.int (if i < 0 then -i else i)) := Iff.rfl
theorem pow_ok {i : Int} {j : Int} (h0 : 0 ≤ i) (h : i < 18446744073709551616) (hj : 0 ≤ j) (hj2 : j ≤ 1000000) : CPow i j := by
  refine ⟨hj, hj2, ?_⟩
  have e : (2:Nat)^64 = 18446744073709551616 := by decide
  omega
theorem div_ok {i m : Int} (h1 : 1 ≤ m) (h : m ≤ 1000000000) : CDivW i m := by
  refine ⟨by omega, ?_⟩
  have h2 : m.natAbs.log2 < 30 := (Nat.log2_lt (by omega)).mpr (by have : (2:Nat)^30 = 1073741824 := by decide
                                                                   omega)
  omega
theorem pow_nn {i : Int} (n : Nat) (h : 0 ≤ i) : 0 ≤ i ^ n := by
  induction n with
  | zero => simp
  | succ n ih => rw [Int.pow_succ]; exact Int.mul_nonneg ih h
theorem tail6_ok {a m cell : Int} {d1 : D} {z2 z5 : Sl} (ha : 0 ≤ a) (ha2 : a ≤ 100000) (hm : 1 ≤ m) (hm2 : m ≤ 1000000000) {Po : D → D → Prop} {R : DX → D → Prop} (p : ∀ v : Int, 0 ≤ v → v < m → Po (.int v) d1) {nx : En → Prop} :
    tail6 [.m d1, .s (.int m), z2, .s (.int a), .s (.int cell), z5, .e] { nx := nx, rt := fun d ρ => ∃ d1, own0 ρ d1 ∧ Po d d1, xe := fun y ρ => ∃ d1, own0 ρ d1 ∧ R y d1 } := by
  have ma : 0 ≤ a * 59333 := by omega
  simp only [tail6, sSeq, sIf, sFor, sSet, sSetO, sRet, sRetN, sNx, sNo, sEx, sFz, sFq, sFldS, sSub, sApp, sExt, sDput, sDupd, sAsg, sParSS, sParSO, sParOS, sParOO, eV, eO, eC, eBin, eUn, eCall, eCallO', eCallO, eMake, eMeth, eCallR, eIf, eNot, eAnd, eOr, eTup, eLst, eIxO, ePop, eIndex, eD1, eSl, oNo, oIs, aNil, aCons, aStar, tV, uNot, uAnd, uOr, uYes, dI, dIs, DV.isNon, dLen, dTuple, dNeg, dMax2, dMin2, gN, gT, gsN, ownD, putO, putFD, en0, en1, own0, List.map_cons, List.map_nil, List.replicate, List.cons.injEq, Nat.sub_self, Nat.reduceSub, Nat.reduceAdd, Bool.not_true, Bool.not_false,  List.length_cons, List.length_nil, List.getElem?_cons_zero, List.getElem?_cons_succ, List.set_cons_zero, List.set_cons_succ, List.cons_append, List.nil_append, Option.some.injEq, Sl.s.injEq, Sl.o.injEq, Sl.m.injEq, reduceCtorEq, D.int.injEq, D.bl.injEq, D.lst.injEq, D.tup.injEq, D.str.injEq, D.dic.injEq, D.obj.injEq, bne_self_eq_false, Bool.bne_true, Bool.bne_false, ite_true, ite_false, exists_eq_left', exists_eq_left, exists_eq_right, exists_eq', exists_and_left, exists_const, or_false, false_or, and_true, true_and, and_false, false_and, if_true, if_false, Bool.false_eq_true, dInt_i, dAdd, dMul]
  have b1 : 0 ≤ cell % 2147483543 := Int.emod_nonneg _ (by decide)
  have b2 : cell % 2147483543 < 2147483543 := Int.emod_lt_of_pos _ (by decide)
  generalize hx : (cell % 2147483543 + 59333 * a + 2539) ^ (5 : Int).toNat % 2147483629 = x
  have c1 : 0 ≤ x := by rw [← hx]; exact Int.emod_nonneg _ (by decide)
  have c2 : x < 2147483629 := by rw [← hx]; exact Int.emod_lt_of_pos _ (by decide)
  generalize hy : (x * (2 * a + 2137) + 57037 * a * a + 2539) ^ (3 : Int).toNat % 2147483647 = y
  have e1 : 0 ≤ x * (2 * a + 2137) := Int.mul_nonneg c1 (by omega)
  have e2 : x * (2 * a + 2137) ≤ 2147483629 * 202137 := Int.mul_le_mul (by omega) (by omega) (by omega) (by decide)
  have e3 : 0 ≤ 57037 * a * a := Int.mul_nonneg (by omega) ha
  have e4 : 57037 * a * a ≤ 5703700000 * 100000 := Int.mul_le_mul (by omega) (by omega) (by omega) (by decide)
  refine ⟨by decide, mul_small (by decide), pow_ok (by omega) (by omega) (by decide) (by decide), by decide, mul_small (by decide), mul_small ⟨by omega, by omega⟩, mul_small (by decide), mul_small ⟨by omega, by omega⟩, pow_ok (by omega) (by omega) (by decide) (by decide), by decide, div_ok (by decide) (by decide), by omega, d1, ⟨0, rfl⟩, p _ (Int.emod_nonneg _ (by omega)) (Int.emod_lt_of_pos _ (by omega))⟩
theorem len__law_draw (K : PySem.W.Frag) : ∀ ds P R, sp__law_draw K ds P R → ds.length = 2 := fun _ _ _ ⟨_, _, _, e, _⟩ => by rw [e]; rfl
theorem pu__law_draw (K : PySem.W.Frag) : ∀ d0 ds (Po : D → D → Prop) (R : DX → D → Prop), sp__law_draw K (d0 :: ds) Po R → B__law_draw K (en1 ["_law_pen_here", "_law_many", "_law_digit", "_law_at", "_law_cell", "_law_great", "_law_mixed_here"] d0 ds) { nx := fun ρ => ∃ d1, own0 ρ d1 ∧ Po .non d1, rt := fun d ρ => ∃ d1, own0 ρ d1 ∧ Po d d1, xe := fun y ρ => ∃ d1, own0 ρ d1 ∧ R y d1 } := by
  rintro d0 ds Po R ⟨k, d0', m, e, ⟨c, a, ee, rfl, hc, ha, hk, he⟩, hk2, hm, hm2, p⟩
  cases e
  unfold penD
  rw [draw_eq]
  simp only [sSeq, sIf, sFor, sSet, sSetO, sRet, sRetN, sNx, sNo, sEx, sFz, sFq, sFldS, sSub, sApp, sExt, sDput, sDupd, sAsg, sParSS, sParSO, sParOS, sParOO, eV, eO, eC, eBin, eUn, eCall, eCallO', eCallO, eMake, eMeth, eCallR, eIf, eNot, eAnd, eOr, eTup, eLst, eIxO, ePop, eIndex, eD1, eSl, oNo, oIs, aNil, aCons, aStar, tV, uNot, uAnd, uOr, uYes, dI, dIs, DV.isNon, dLen, dTuple, dNeg, dMax2, dMin2, gN, gT, gsN, ownD, putO, putFD, en0, en1, own0, List.map_cons, List.map_nil, List.replicate, List.cons.injEq, Nat.sub_self, Nat.reduceSub, Nat.reduceAdd, Bool.not_true, Bool.not_false,  List.length_cons, List.length_nil, List.getElem?_cons_zero, List.getElem?_cons_succ, List.set_cons_zero, List.set_cons_succ, List.cons_append, List.nil_append, Option.some.injEq, Sl.s.injEq, Sl.o.injEq, Sl.m.injEq, reduceCtorEq, D.int.injEq, D.bl.injEq, D.lst.injEq, D.tup.injEq, D.str.injEq, D.dic.injEq, D.obj.injEq, bne_self_eq_false, Bool.bne_true, Bool.bne_false, ite_true, ite_false, exists_eq_left', exists_eq_left, exists_eq_right, exists_eq', exists_and_left, exists_const, or_false, false_or, and_true, true_and, and_false, false_and, if_true, if_false, Bool.false_eq_true, dInt_i, dInt_b, dAbs_i, at3_0, at3_1, at3_2, ix3_1, ix3_2]
  have tl : ∀ {cell : Int} {z2 z5 : Sl}, tail6 [.m (penD c (a + 1) ee), .s (.int m), z2, .s (.int a), .s (.int cell), z5, .e] { nx := fun ρ => ∃ d1, own0 ρ d1 ∧ Po .non d1, rt := fun d ρ => ∃ d1, own0 ρ d1 ∧ Po d d1, xe := fun y ρ => ∃ d1, own0 ρ d1 ∧ R y d1 } := fun {cell z2 z5} =>
    tail6_ok ha (by omega) hm hm2 fun v h0 h1 => p v _ h0 h1 ⟨c, a + 1, ee, rfl, hc, by omega, by omega, he⟩
  have fin : ∀ {g : Int} {d1 : D}, d1 = penD c a (g / m) ∨ d1 = penD c (a + 1) (g / m) → 0 ≤ g → Po (.int (g % m)) d1 := fun {g d1} e hg => by
    have hq : 0 ≤ g / m := Int.ediv_nonneg hg (by omega)
    rcases e with e | e
    · exact p _ _ (Int.emod_nonneg _ (by omega)) (Int.emod_lt_of_pos _ (by omega)) ⟨c, a, _, e, hc, ha, by omega, hq⟩
    · exact p _ _ (Int.emod_nonneg _ (by omega)) (Int.emod_lt_of_pos _ (by omega)) ⟨c, a + 1, _, e, hc, by omega, by omega, hq⟩
  by_cases h : 0 < ee
  · rw [if_pos (decide_eq_true h)]
    exact ⟨by omega, div_ok hm hm2, _, ⟨0, rfl⟩, fin (.inl rfl) he⟩
  · rw [if_neg (by simp [h])]
    simp only [dAdd, dMul, sSeq, sIf, sFor, sSet, sSetO, sRet, sRetN, sNx, sNo, sEx, sFz, sFq, sFldS, sSub, sApp, sExt, sDput, sDupd, sAsg, sParSS, sParSO, sParOS, sParOO, eV, eO, eC, eBin, eUn, eCall, eCallO', eCallO, eMake, eMeth, eCallR, eIf, eNot, eAnd, eOr, eTup, eLst, eIxO, ePop, eIndex, eD1, eSl, oNo, oIs, aNil, aCons, aStar, tV, uNot, uAnd, uOr, uYes, dI, dIs, DV.isNon, dLen, dTuple, dNeg, dMax2, dMin2, gN, gT, gsN, ownD, putO, putFD, en0, en1, own0, List.map_cons, List.map_nil, List.replicate, List.cons.injEq, Nat.sub_self, Nat.reduceSub, Nat.reduceAdd, Bool.not_true, Bool.not_false,  List.length_cons, List.length_nil, List.getElem?_cons_zero, List.getElem?_cons_succ, List.set_cons_zero, List.set_cons_succ, List.cons_append, List.nil_append, Option.some.injEq, Sl.s.injEq, Sl.o.injEq, Sl.m.injEq, reduceCtorEq, D.int.injEq, D.bl.injEq, D.lst.injEq, D.tup.injEq, D.str.injEq, D.dic.injEq, D.obj.injEq, bne_self_eq_false, Bool.bne_true, Bool.bne_false, ite_true, ite_false, exists_eq_left', exists_eq_left, exists_eq_right, exists_eq', exists_and_left, exists_const, or_false, false_or, and_true, true_and, and_false, false_and, if_true, if_false, Bool.false_eq_true, dInt_i, dInt_b, dAbs_i]
    refine ⟨mul_small (by decide), by decide, ?_⟩
    show dEq true (dl c) (dl []) _
    refine eq_dl ?_
    refine ⟨_, rfl, ?_⟩
    by_cases hc0 : c = []
    · subst hc0
      have e0 : decide (a < ((0 : Nat) : Int)) = false := decide_eq_false (by omega)
      simp only [decide_true, sSeq, sIf, sFor, sSet, sSetO, sRet, sRetN, sNx, sNo, sEx, sFz, sFq, sFldS, sSub, sApp, sExt, sDput, sDupd, sAsg, sParSS, sParSO, sParOS, sParOO, eV, eO, eC, eBin, eUn, eCall, eCallO', eCallO, eMake, eMeth, eCallR, eIf, eNot, eAnd, eOr, eTup, eLst, eIxO, ePop, eIndex, eD1, eSl, oNo, oIs, aNil, aCons, aStar, tV, uNot, uAnd, uOr, uYes, dI, dIs, DV.isNon, dLen, dTuple, dNeg, dMax2, dMin2, gN, gT, gsN, ownD, putO, putFD, en0, en1, own0, List.map_cons, List.map_nil, List.replicate, List.cons.injEq, Nat.sub_self, Nat.reduceSub, Nat.reduceAdd, Bool.not_true, Bool.not_false,  List.length_cons, List.length_nil, List.getElem?_cons_zero, List.getElem?_cons_succ, List.set_cons_zero, List.set_cons_succ, List.cons_append, List.nil_append, Option.some.injEq, Sl.s.injEq, Sl.o.injEq, Sl.m.injEq, reduceCtorEq, D.int.injEq, D.bl.injEq, D.lst.injEq, D.tup.injEq, D.str.injEq, D.dic.injEq, D.obj.injEq, bne_self_eq_false, Bool.bne_true, Bool.bne_false, ite_true, ite_false, exists_eq_left', exists_eq_left, exists_eq_right, exists_eq', exists_and_left, exists_const, or_false, false_or, and_true, true_and, and_false, false_and, if_true, if_false, Bool.false_eq_true, e0]
      exact tl
    · rw [if_pos (by simp [hc0])]
      have hl : 0 < c.length := by cases c with
        | nil => exact absurd rfl hc0
        | cons _ _ => simp
      simp only [List.length_map]
      refine ⟨by omega, ix_l (Int.emod_nonneg _ (by omega)) (Int.emod_lt_of_pos _ (by omega)) ?_⟩
      generalize gI c (a % ↑c.length) = cell
      by_cases h2 : a < (c.length : Int)
      · rw [if_pos (decide_eq_true h2)]
        simp only [dAbs_i, sSeq, sIf, sFor, sSet, sSetO, sRet, sRetN, sNx, sNo, sEx, sFz, sFq, sFldS, sSub, sApp, sExt, sDput, sDupd, sAsg, sParSS, sParSO, sParOS, sParOO, eV, eO, eC, eBin, eUn, eCall, eCallO', eCallO, eMake, eMeth, eCallR, eIf, eNot, eAnd, eOr, eTup, eLst, eIxO, ePop, eIndex, eD1, eSl, oNo, oIs, aNil, aCons, aStar, tV, uNot, uAnd, uOr, uYes, dI, dIs, DV.isNon, dLen, dTuple, dNeg, dMax2, dMin2, gN, gT, gsN, ownD, putO, putFD, en0, en1, own0, List.map_cons, List.map_nil, List.replicate, List.cons.injEq, Nat.sub_self, Nat.reduceSub, Nat.reduceAdd, Bool.not_true, Bool.not_false,  List.length_cons, List.length_nil, List.getElem?_cons_zero, List.getElem?_cons_succ, List.set_cons_zero, List.set_cons_succ, List.cons_append, List.nil_append, Option.some.injEq, Sl.s.injEq, Sl.o.injEq, Sl.m.injEq, reduceCtorEq, D.int.injEq, D.bl.injEq, D.lst.injEq, D.tup.injEq, D.str.injEq, D.dic.injEq, D.obj.injEq, bne_self_eq_false, Bool.bne_true, Bool.bne_false, ite_true, ite_false, exists_eq_left', exists_eq_left, exists_eq_right, exists_eq', exists_and_left, exists_const, or_false, false_or, and_true, true_and, and_false, false_and, if_true, if_false, Bool.false_eq_true]
        refine ⟨pow_ok (by decide) (by decide) (by decide) (by decide), ?_⟩
        have e18 : (10 : Int) ^ Int.toNat 18 = 1000000000000000000 := by decide
        rw [e18]
        by_cases h3 : (1000000000000000000 : Int) ≤ (if cell < 0 then -cell else cell)
        · rw [if_pos (decide_eq_true h3)]
          simp only [dAbs_i, dMul, dAdd, dInt_i, dInt_b, sSeq, sIf, sFor, sSet, sSetO, sRet, sRetN, sNx, sNo, sEx, sFz, sFq, sFldS, sSub, sApp, sExt, sDput, sDupd, sAsg, sParSS, sParSO, sParOS, sParOO, eV, eO, eC, eBin, eUn, eCall, eCallO', eCallO, eMake, eMeth, eCallR, eIf, eNot, eAnd, eOr, eTup, eLst, eIxO, ePop, eIndex, eD1, eSl, oNo, oIs, aNil, aCons, aStar, tV, uNot, uAnd, uOr, uYes, dI, dIs, DV.isNon, dLen, dTuple, dNeg, dMax2, dMin2, gN, gT, gsN, ownD, putO, putFD, en0, en1, own0, List.map_cons, List.map_nil, List.replicate, List.cons.injEq, Nat.sub_self, Nat.reduceSub, Nat.reduceAdd, Bool.not_true, Bool.not_false,  List.length_cons, List.length_nil, List.getElem?_cons_zero, List.getElem?_cons_succ, List.set_cons_zero, List.set_cons_succ, List.cons_append, List.nil_append, Option.some.injEq, Sl.s.injEq, Sl.o.injEq, Sl.m.injEq, reduceCtorEq, D.int.injEq, D.bl.injEq, D.lst.injEq, D.tup.injEq, D.str.injEq, D.dic.injEq, D.obj.injEq, bne_self_eq_false, Bool.bne_true, Bool.bne_false, ite_true, ite_false, exists_eq_left', exists_eq_left, exists_eq_right, exists_eq', exists_and_left, exists_const, or_false, false_or, and_true, true_and, and_false, false_and, if_true, if_false, Bool.false_eq_true]
          refine ⟨pow_ok (by decide) (by decide) (by decide) (by decide), mul_small (by decide), div_ok hm hm2, by omega, _, ⟨0, rfl⟩, fin (.inr rfl) ?_⟩
          have e2 : 0 ≤ (if decide (cell < 0) = true then (1 : Int) else 0) := by split <;> decide
          omega
        · rw [if_neg (by simp [h3])]
          exact tl
      · rw [if_neg (by simp [h2])]
        exact tl
theorem len__law_pick (K : PySem.W.Frag) : ∀ ds P R, sp__law_pick K ds P R → ds.length = 2 := fun _ _ _ ⟨_, _, _, e, _⟩ => by rw [e]; rfl
theorem pu__law_pick (K : PySem.W.Frag) : ∀ d0 ds (Po : D → D → Prop) (R : DX → D → Prop), sp__law_pick K (d0 :: ds) Po R → B__law_pick K (en1 ["_law_pen_here", "_law_some"] d0 ds) { nx := fun ρ => ∃ d1, own0 ρ d1 ∧ Po .non d1, rt := fun d ρ => ∃ d1, own0 ρ d1 ∧ Po d d1, xe := fun y ρ => ∃ d1, own0 ρ d1 ∧ R y d1 } := by
  rintro d0 ds Po R ⟨k, d0', is, e, hp, hk, hne, hl, p⟩
  cases e
  have hpos : 0 < is.length := by cases is with
    | nil => exact absurd rfl hne
    | cons _ _ => simp
  simp only [B__law_pick, sSeq, sIf, sFor, sSet, sSetO, sRet, sRetN, sNx, sNo, sEx, sFz, sFq, sFldS, sSub, sApp, sExt, sDput, sDupd, sAsg, sParSS, sParSO, sParOS, sParOO, eV, eO, eC, eBin, eUn, eCall, eCallO', eCallO, eMake, eMeth, eCallR, eIf, eNot, eAnd, eOr, eTup, eLst, eIxO, ePop, eIndex, eD1, eSl, oNo, oIs, aNil, aCons, aStar, tV, uNot, uAnd, uOr, uYes, dI, dIs, DV.isNon, dLen, dTuple, dNeg, dMax2, dMin2, gN, gT, gsN, ownD, putO, putFD, en0, en1, own0, List.map_cons, List.map_nil, List.replicate, List.cons.injEq, Nat.sub_self, Nat.reduceSub, Nat.reduceAdd, Bool.not_true, Bool.not_false,  List.length_cons, List.length_nil, List.getElem?_cons_zero, List.getElem?_cons_succ, List.set_cons_zero, List.set_cons_succ, List.cons_append, List.nil_append, Option.some.injEq, Sl.s.injEq, Sl.o.injEq, Sl.m.injEq, reduceCtorEq, D.int.injEq, D.bl.injEq, D.lst.injEq, D.tup.injEq, D.str.injEq, D.dic.injEq, D.obj.injEq, bne_self_eq_false, Bool.bne_true, Bool.bne_false, ite_true, ite_false, exists_eq_left', exists_eq_left, exists_eq_right, exists_eq', exists_and_left, exists_const, or_false, false_or, and_true, true_and, and_false, false_and, if_true, if_false, Bool.false_eq_true, List.length_map]
  refine ⟨k, d0, is.length, rfl, hp, hk, by omega, by omega, fun v d1 h0 h1 hp1 => ?_⟩
  refine ix_l h0 h1 ⟨d1, ⟨0, rfl⟩, p _ _ (gI_mem h0 h1) hp1⟩
theorem len__law_mixed (K : PySem.W.Frag) : ∀ ds P R, sp__law_mixed K ds P R → ds.length = 2 := fun _ _ _ ⟨_, _, _, e, _⟩ => by rw [e]; rfl
theorem map_erase {α β : Type} (f : α → β) : ∀ (l : List α) (i : Nat), (l.map f).eraseIdx i = (l.eraseIdx i).map f
  | [], _ => rfl
  | a :: l, 0 => rfl
  | a :: l, i + 1 => by
    show f a :: (l.map f).eraseIdx i = f a :: (l.eraseIdx i).map f
    rw [map_erase f l i]
theorem perm_erase : ∀ (l : List Int) (i : Nat) (h : i < l.length), (l[i] :: l.eraseIdx i).Perm l
  | a :: l, 0, _ => List.Perm.refl _
  | a :: l, i + 1, h => by
    have hi : i < l.length := by simpa using h
    show (l[i] :: a :: l.eraseIdx i).Perm (a :: l)
    exact (List.Perm.swap _ _ _).trans ((perm_erase l i hi).cons a)
theorem pu__law_mixed (K : PySem.W.Frag) : ∀ d0 ds (Po : D → D → Prop) (R : DX → D → Prop), sp__law_mixed K (d0 :: ds) Po R → B__law_mixed K (en1 ["_law_pen_here", "_law_items", "_law_left", "_law_found", "_law_turn"] d0 ds) { nx := fun ρ => ∃ d1, own0 ρ d1 ∧ Po .non d1, rt := fun d ρ => ∃ d1, own0 ρ d1 ∧ Po d d1, xe := fun y ρ => ∃ d1, own0 ρ d1 ∧ R y d1 } := by
  rintro d0 ds Po R ⟨k, d0', is, e, hp, hk, hl, p⟩
  cases e
  simp only [B__law_mixed, sSeq, sIf, sFor, sSet, sSetO, sRet, sRetN, sNx, sNo, sEx, sFz, sFq, sFldS, sSub, sApp, sExt, sDput, sDupd, sAsg, sParSS, sParSO, sParOS, sParOO, eV, eO, eC, eBin, eUn, eCall, eCallO', eCallO, eMake, eMeth, eCallR, eIf, eNot, eAnd, eOr, eTup, eLst, eIxO, ePop, eIndex, eD1, eSl, oNo, oIs, aNil, aCons, aStar, tV, uNot, uAnd, uOr, uYes, dI, dIs, DV.isNon, dLen, dTuple, dNeg, dMax2, dMin2, gN, gT, gsN, ownD, putO, putFD, en0, en1, own0, List.map_cons, List.map_nil, List.replicate, List.cons.injEq, Nat.sub_self, Nat.reduceSub, Nat.reduceAdd, Bool.not_true, Bool.not_false,  List.length_cons, List.length_nil, List.getElem?_cons_zero, List.getElem?_cons_succ, List.set_cons_zero, List.set_cons_succ, List.cons_append, List.nil_append, Option.some.injEq, Sl.s.injEq, Sl.o.injEq, Sl.m.injEq, reduceCtorEq, D.int.injEq, D.bl.injEq, D.lst.injEq, D.tup.injEq, D.str.injEq, D.dic.injEq, D.obj.injEq, bne_self_eq_false, Bool.bne_true, Bool.bne_false, ite_true, ite_false, exists_eq_left', exists_eq_left, exists_eq_right, exists_eq', exists_and_left, exists_const, or_false, false_or, and_true, true_and, and_false, false_and, if_true, if_false, Bool.false_eq_true, List.length_map, dList]
  refine ⟨by decide, ?_⟩
  unfold iR1
  simp only [sSeq, sIf, sFor, sSet, sSetO, sRet, sRetN, sNx, sNo, sEx, sFz, sFq, sFldS, sSub, sApp, sExt, sDput, sDupd, sAsg, sParSS, sParSO, sParOS, sParOO, eV, eO, eC, eBin, eUn, eCall, eCallO', eCallO, eMake, eMeth, eCallR, eIf, eNot, eAnd, eOr, eTup, eLst, eIxO, ePop, eIndex, eD1, eSl, oNo, oIs, aNil, aCons, aStar, tV, uNot, uAnd, uOr, uYes, dI, dIs, DV.isNon, dLen, dTuple, dNeg, dMax2, dMin2, gN, gT, gsN, ownD, putO, putFD, en0, en1, own0, List.map_cons, List.map_nil, List.replicate, List.cons.injEq, Nat.sub_self, Nat.reduceSub, Nat.reduceAdd, Bool.not_true, Bool.not_false,  List.length_cons, List.length_nil, List.getElem?_cons_zero, List.getElem?_cons_succ, List.set_cons_zero, List.set_cons_succ, List.cons_append, List.nil_append, Option.some.injEq, Sl.s.injEq, Sl.o.injEq, Sl.m.injEq, reduceCtorEq, D.int.injEq, D.bl.injEq, D.lst.injEq, D.tup.injEq, D.str.injEq, D.dic.injEq, D.obj.injEq, bne_self_eq_false, Bool.bne_true, Bool.bne_false, ite_true, ite_false, exists_eq_left', exists_eq_left, exists_eq_right, exists_eq', exists_and_left, exists_const, or_false, false_or, and_true, true_and, and_false, false_and, if_true, if_false, Bool.false_eq_true, List.length_map]
  refine ⟨by omega, by omega, ?_⟩
  have en : ((is.length : Int)).toNat = is.length := Int.toNat_natCast _
  rw [en, rgD_eq]
  refine forD_ind (fun ys ρ => ∃ (d1 : D) (left found : List Int) (z : Sl), ρ = [.m d1, .s (dl is), .o (dl left), .o (dl found), z] ∧ ys.length = left.length ∧ (left ++ found).Perm is ∧ PenOk (k + found.length) d1) ?_ ?_ ⟨d0, is, [], .e, rfl, rgI_len, by simp, hp⟩
  · rintro ρ ⟨d1, left, found, z, rfl, e, hpm, hp1⟩
    have e0 : left = [] := List.eq_nil_of_length_eq_zero (by simpa using e.symm)
    subst e0
    simp only [sSeq, sIf, sFor, sSet, sSetO, sRet, sRetN, sNx, sNo, sEx, sFz, sFq, sFldS, sSub, sApp, sExt, sDput, sDupd, sAsg, sParSS, sParSO, sParOS, sParOO, eV, eO, eC, eBin, eUn, eCall, eCallO', eCallO, eMake, eMeth, eCallR, eIf, eNot, eAnd, eOr, eTup, eLst, eIxO, ePop, eIndex, eD1, eSl, oNo, oIs, aNil, aCons, aStar, tV, uNot, uAnd, uOr, uYes, dI, dIs, DV.isNon, dLen, dTuple, dNeg, dMax2, dMin2, gN, gT, gsN, ownD, putO, putFD, en0, en1, own0, List.map_cons, List.map_nil, List.replicate, List.cons.injEq, Nat.sub_self, Nat.reduceSub, Nat.reduceAdd, Bool.not_true, Bool.not_false,  List.length_cons, List.length_nil, List.getElem?_cons_zero, List.getElem?_cons_succ, List.set_cons_zero, List.set_cons_succ, List.cons_append, List.nil_append, Option.some.injEq, Sl.s.injEq, Sl.o.injEq, Sl.m.injEq, reduceCtorEq, D.int.injEq, D.bl.injEq, D.lst.injEq, D.tup.injEq, D.str.injEq, D.dic.injEq, D.obj.injEq, bne_self_eq_false, Bool.bne_true, Bool.bne_false, ite_true, ite_false, exists_eq_left', exists_eq_left, exists_eq_right, exists_eq', exists_and_left, exists_const, or_false, false_or, and_true, true_and, and_false, false_and, if_true, if_false, Bool.false_eq_true]
    refine ⟨d1, ⟨0, rfl⟩, p _ _ (by simpa using hpm) ?_⟩
    have : found.length = is.length := by simpa using hpm.length_eq
    rw [← this]; exact hp1
  · rintro y ys ρ ⟨d1, left, found, z, rfl, e, hpm, hp1⟩ F hF
    have hll : left.length + found.length = is.length := by simpa using hpm.length_eq
    have hlp : 0 < left.length := by rw [← e]; simp
    simp only [sSeq, sIf, sFor, sSet, sSetO, sRet, sRetN, sNx, sNo, sEx, sFz, sFq, sFldS, sSub, sApp, sExt, sDput, sDupd, sAsg, sParSS, sParSO, sParOS, sParOO, eV, eO, eC, eBin, eUn, eCall, eCallO', eCallO, eMake, eMeth, eCallR, eIf, eNot, eAnd, eOr, eTup, eLst, eIxO, ePop, eIndex, eD1, eSl, oNo, oIs, aNil, aCons, aStar, tV, uNot, uAnd, uOr, uYes, dI, dIs, DV.isNon, dLen, dTuple, dNeg, dMax2, dMin2, gN, gT, gsN, ownD, putO, putFD, en0, en1, own0, List.map_cons, List.map_nil, List.replicate, List.cons.injEq, Nat.sub_self, Nat.reduceSub, Nat.reduceAdd, Bool.not_true, Bool.not_false,  List.length_cons, List.length_nil, List.getElem?_cons_zero, List.getElem?_cons_succ, List.set_cons_zero, List.set_cons_succ, List.cons_append, List.nil_append, Option.some.injEq, Sl.s.injEq, Sl.o.injEq, Sl.m.injEq, reduceCtorEq, D.int.injEq, D.bl.injEq, D.lst.injEq, D.tup.injEq, D.str.injEq, D.dic.injEq, D.obj.injEq, bne_self_eq_false, Bool.bne_true, Bool.bne_false, ite_true, ite_false, exists_eq_left', exists_eq_left, exists_eq_right, exists_eq', exists_and_left, exists_const, or_false, false_or, and_true, true_and, and_false, false_and, if_true, if_false, Bool.false_eq_true, List.length_map]
    refine ⟨k + found.length, d1, left.length, rfl, hp1, by omega, by omega, by omega, fun v d2 h0 h1 hp2 => ?_⟩
    obtain ⟨n, rfl⟩ : ∃ n : Nat, v = n := ⟨v.toNat, by omega⟩
    have hn : n < left.length := by omega
    have hix : ixN left.length (n : Int) = some n := by
      unfold ixN
      rw [if_pos (by omega), if_pos (by omega), Int.toNat_natCast]
    refine ⟨n, rfl, by omega, by omega, n, (ixN_seq hix).1, .int left[n], by rw [List.getElem?_map, List.getElem?_eq_getElem hn]; rfl, Nat.lt_of_lt_of_le (by omega : found.length < 100000) (by decide), ?_⟩
    rw [map_erase]
    have e3 : D.lst (List.map D.int found ++ [D.int left[n]]) = dl (found ++ [left[n]]) := by simp
    rw [e3]
    refine hF _ ⟨d2, left.eraseIdx n, found ++ [left[n]], _, rfl, ?_, ?_, ?_⟩
    · rw [List.length_eraseIdx_of_lt hn]; simp at e; omega
    · refine List.Perm.trans ?_ hpm
      have h1 := perm_erase left n hn
      have h2 : (left.eraseIdx n ++ (found ++ [left[n]])).Perm (left[n] :: (left.eraseIdx n ++ found)) := by
        rw [← List.append_assoc]
        exact List.perm_append_singleton _ _
      exact h2.trans (h1.append_right found)
    · have : k + (found ++ [left[n]]).length = k + found.length + 1 := by simp; omega
      rw [this]; exact hp2
end KT

set_option Elab.async false
set_option linter.all false
set_option maxRecDepth 100000
set_option maxHeartbeats 4000000
/-! The pure part: lots. -/
namespace DV
open PySem L2
theorem lcQ_p {α : Type} {vs : List Nat} {G : DG} {T : DT} {A : DE} {ρ : En} {P : D → En → Prop} (xs : List α) (g : α → D) (e : α → En) (c : α → Bool) (h : α → D)
    (hq : quiet ρ vs) (hG : ∀ x ∈ xs, ∀ Q : En → Prop, Q (e x) → G (g x) (blank ρ vs) Q) (hb : ∀ x ∈ xs, blank (e x) vs = blank ρ vs)
    (hT : ∀ x ∈ xs, ∀ Q : Bool → En → Prop, Q (c x) (e x) → T (e x) Q noR) (hA : ∀ x ∈ xs, c x = true → ∀ Q : D → En → Prop, Q (h x) (e x) → A (e x) Q noR) (hl : xs.length ≤ sizeLine) (p : P (.lst ((xs.filter c).map h)) ρ) :
    quiet ρ vs ∧ lcD vs G T A (xs.map g) [] (blank ρ vs) (fun acc ρ2 => P (.lst acc) (back ρ ρ2 vs)) noR := by
  refine ⟨hq, lcD_p hG hb hT hA (by simpa using hl) ?_⟩
  show P _ (back ρ (blank ρ vs) vs)
  rw [back_blank]
  simpa using p
theorem lcQ_p1 {α : Type} {vs : List Nat} {G : DG} {A : DE} {ρ : En} {P : D → En → Prop} (xs : List α) (g : α → D) (e : α → En) (h : α → D)
    (hq : quiet ρ vs) (hG : ∀ x ∈ xs, ∀ Q : En → Prop, Q (e x) → G (g x) (blank ρ vs) Q) (hb : ∀ x ∈ xs, blank (e x) vs = blank ρ vs)
    (hA : ∀ x ∈ xs, ∀ Q : D → En → Prop, Q (h x) (e x) → A (e x) Q noR) (hl : xs.length ≤ sizeLine) (p : P (.lst (xs.map h)) ρ) :
    quiet ρ vs ∧ lcD vs G uYes A (xs.map g) [] (blank ρ vs) (fun acc ρ2 => P (.lst acc) (back ρ ρ2 vs)) noR :=
  lcQ_p xs g e (fun _ => true) h hq hG hb (fun _ _ _ q => q) (fun x hx _ => hA x hx) hl (by rw [List.filter_eq_self.mpr fun _ _ => rfl]; exact p)
end DV
namespace KT
open PySem L2 DV
/-! ### all lots -/
def allLots : Nat → List (List Int)
  | 0 => [[]]
  | k + 1 => allLots k ++ (allLots k).map fun l => l ++ [(k : Int)]
theorem allLots_len : ∀ k, (allLots k).length = 2 ^ k
  | 0 => rfl
  | k + 1 => by rw [allLots, List.length_append, List.length_map, allLots_len k, Nat.pow_succ]; omega
theorem Lot.mono {k m : Nat} (h : k ≤ m) {lot : List Int} (q : Lot k lot) : Lot m lot := ⟨q.1, fun b hb => ⟨(q.2 b hb).1, by have := (q.2 b hb).2; omega⟩⟩
theorem allLots_lot : ∀ {k : Nat} {lot : List Int}, lot ∈ allLots k → Lot k lot
  | 0, lot, h => by
    have : lot = [] := by simpa [allLots] using h
    subst this
    exact ⟨.nil, fun b hb => by cases hb⟩
  | k + 1, lot, h => by
    rw [allLots, List.mem_append, List.mem_map] at h
    rcases h with h | ⟨l, h, rfl⟩
    · exact (allLots_lot h).mono (Nat.le_succ _)
    · have q := allLots_lot h
      refine ⟨List.pairwise_append.mpr ⟨q.1, List.pairwise_singleton _ _, fun a ha b hb => ?_⟩, fun b hb => ?_⟩
      · rw [List.mem_singleton.mp hb]; exact (q.2 a ha).2
      · rcases List.mem_append.mp hb with hb | hb
        · have := q.2 b hb; omega
        · rw [List.mem_singleton.mp hb]; omega
theorem snoc_or {α : Type} : ∀ l : List α, l = [] ∨ ∃ m z, l = m ++ [z]
  | [] => .inl rfl
  | x :: l => by
    rcases snoc_or l with rfl | ⟨m, z, rfl⟩
    · exact .inr ⟨[], x, rfl⟩
    · exact .inr ⟨x :: m, z, rfl⟩
theorem lot_allLots : ∀ {k : Nat} {lot : List Int}, Lot k lot → lot ∈ allLots k
  | 0, lot, h => by
    cases lot with
    | nil => simp [allLots]
    | cons b l => have := h.2 b List.mem_cons_self; omega
  | k + 1, lot, h => by
    rw [allLots, List.mem_append, List.mem_map]
    rcases snoc_or lot with rfl | ⟨m, z, rfl⟩
    · exact .inl (lot_allLots ⟨.nil, fun b hb => by cases hb⟩)
    · obtain ⟨h1, _, h3⟩ := List.pairwise_append.mp h.1
      have hz := h.2 z (by simp)
      have hm : Lot z.toNat m := ⟨h1, fun b hb => by
        have a := h.2 b (List.mem_append_left _ hb)
        have c := h3 b hb z (by simp)
        omega⟩
      by_cases c : z = (k : Int)
      · subst c
        exact .inr ⟨m, lot_allLots (by simpa using hm), rfl⟩
      · refine .inl (lot_allLots ⟨h.1, fun b hb => ⟨(h.2 b hb).1, ?_⟩⟩)
        rcases List.mem_append.mp hb with hb | hb
        · have := hm.2 b hb; omega
        · rw [List.mem_singleton.mp hb]; omega
theorem allLots_nodup : ∀ k, (allLots k).Nodup
  | 0 => by simp [allLots]
  | k + 1 => by
    rw [allLots]
    refine List.nodup_append.mpr ⟨allLots_nodup k, ?_, fun a ha b hb e => ?_⟩
    · unfold List.Nodup
      rw [List.pairwise_map]
      exact (allLots_nodup k).imp fun hne e => hne (List.append_cancel_right e)
    · obtain ⟨l, hl, rfl⟩ := List.mem_map.mp hb
      have := (allLots_lot ha).2 (k : Int) (by rw [e]; simp)
      omega
/-! ### order -/
theorem lexLt_total : ∀ {xs ys : List Int}, HT.lexLt xs ys = false → HT.lexLt ys xs = false → xs = ys
  | [], [], _, _ => rfl
  | [], y :: ys, h, _ => by rw [HT.lexLt_nil_cons] at h; cases h
  | x :: xs, [], _, h => by rw [HT.lexLt_nil_cons] at h; cases h
  | x :: xs, y :: ys, h1, h2 => by
    rw [HT.lexLt_cons] at h1 h2
    by_cases e : x = y
    · rw [if_pos e] at h1
      rw [if_pos e.symm] at h2
      rw [e, lexLt_total h1 h2]
    · rw [if_neg e] at h1
      rw [if_neg (Ne.symm e)] at h2
      have a := of_decide_eq_false h1
      have b := of_decide_eq_false h2
      omega
theorem lexT_total {p q : Int × List Int} (h1 : SrtO.lexT p q = false) (h2 : SrtO.lexT q p = false) : p = q := by
  unfold SrtO.lexT at h1 h2
  by_cases e : p.1 = q.1
  · rw [if_pos e] at h1
    rw [if_pos e.symm] at h2
    exact Prod.ext e (lexLt_total h1 h2)
  · rw [if_neg e] at h1
    rw [if_neg (Ne.symm e)] at h2
    have a := of_decide_eq_false h1
    have b := of_decide_eq_false h2
    omega
theorem lotlt_irrefl {a : List Int} : ¬ lotlt a a := fun h => by
  unfold lotlt at h
  rw [SrtO.lexT_swo.refl] at h; cases h
theorem lotlt_asymm {a b : List Int} (h : lotlt a b) (h' : lotlt b a) : False := by
  unfold lotlt at h h'
  rw [SrtO.lexT_swo.asym _ _ h] at h'; cases h'
/-- sorted by how many, then as tuples -/
theorem sorted_lots {Fs : List (List Int)} {ps : List (Int × List Int)} (hn : Fs.Nodup) (hs : SrtO.Srtd SrtO.lexT ps) (hp : ps.Perm (Fs.map fun l => ((l.length : Int), l))) : (ps.map (·.2)).Pairwise lotlt ∧ (ps.map (·.2)).Perm Fs := by
  have h1 : ∀ p ∈ ps, p.1 = (p.2.length : Int) := fun p h => by
    obtain ⟨l, _, e⟩ := List.mem_map.mp (hp.mem_iff.mp h)
    rw [← e]
  have h2 : (ps.map (·.2)).Perm Fs := by
    have := hp.map (·.2)
    rw [List.map_map] at this
    have e : (Fs.map ((fun p : Int × List Int => p.2) ∘ fun l => ((l.length : Int), l))) = Fs := List.map_id'' (fun _ => rfl) Fs
    rw [e] at this; exact this
  refine ⟨?_, h2⟩
  have h3 : (ps.map (·.2)).Nodup := h2.nodup_iff.mpr hn
  unfold List.Nodup at h3
  rw [List.pairwise_map] at h3 ⊢
  refine (List.Pairwise.and hs h3).imp_of_mem fun {a b} ha hb ⟨q1, q2⟩ => ?_
  unfold lotlt
  rw [← h1 a ha, ← h1 b hb]
  rcases SrtO.bcase (SrtO.lexT a b) with q | q
  · exact q
  · exact absurd (congrArg (·.2) (lexT_total q q1)) q2
/-- two strictly ascending lists of the same lots are one -/
theorem asc_uniq : ∀ {A B : List (List Int)}, A.Pairwise lotlt → B.Pairwise lotlt → (∀ l, l ∈ A ↔ l ∈ B) → A = B
  | [], [], _, _, _ => rfl
  | [], b :: B, _, _, h => by have := (h b).mpr List.mem_cons_self; cases this
  | a :: A, [], _, _, h => by have := (h a).mp List.mem_cons_self; cases this
  | a :: A, b :: B, hA, hB, h => by
    obtain ⟨a1, a2⟩ := List.pairwise_cons.mp hA
    obtain ⟨b1, b2⟩ := List.pairwise_cons.mp hB
    have e : a = b := by
      rcases List.mem_cons.mp ((h a).mp List.mem_cons_self) with e | h1
      · exact e
      · rcases List.mem_cons.mp ((h b).mpr List.mem_cons_self) with e | h2
        · exact e.symm
        · exact (lotlt_asymm (a1 b h2) (b1 a h1)).elim
    subst e
    rw [asc_uniq a2 b2 fun l => ?_]
    constructor
    · intro hl
      rcases List.mem_cons.mp ((h l).mp (List.mem_cons_of_mem _ hl)) with e | q
      · subst e; exact (lotlt_irrefl (a1 _ hl)).elim
      · exact q
    · intro hl
      rcases List.mem_cons.mp ((h l).mpr (List.mem_cons_of_mem _ hl)) with e | q
      · subst e; exact (lotlt_irrefl (b1 _ hl)).elim
      · exact q
theorem Book.uniq {n : Nat} {p q : List Int → Prop} {A B : List (List Int)} (hA : Book n p A) (hB : Book n q B) (h : ∀ l, Lot n l → (p l ↔ q l)) : A = B :=
  asc_uniq hA.asc hB.asc fun l => by rw [hA.mem, hB.mem]; exact ⟨fun ⟨a, b⟩ => ⟨a, (h l a).mp b⟩, fun ⟨a, b⟩ => ⟨a, (h l a).mpr b⟩⟩
theorem book_all {n : Nat} (hn : n ≤ 8) {ps : List (Int × List Int)} (hs : SrtO.Srtd SrtO.lexT ps) (hp : ps.Perm ((allLots n).map fun l => ((l.length : Int), l))) : Book n (fun _ => True) (ps.map (·.2)) := by
  obtain ⟨h1, h2⟩ := sorted_lots (allLots_nodup n) hs hp
  refine ⟨h1, fun l => ?_, ?_⟩
  · rw [h2.mem_iff]
    exact ⟨fun h => ⟨allLots_lot h, trivial⟩, fun h => lot_allLots h.1⟩
  · rw [h2.length_eq, allLots_len]
    exact Nat.pow_le_pow_right (n := 2) (by decide) hn
theorem Book.filter {n : Nat} {p q : List Int → Prop} {A : List (List Int)} (hA : Book n p A) {c : List Int → Bool} (h : ∀ l, Lot n l → p l → (c l = true ↔ q l)) (hq : ∀ l, Lot n l → q l → p l) : Book n q (A.filter c) :=
  ⟨List.Pairwise.filter _ hA.asc, fun l => by
    rw [List.mem_filter, hA.mem]
    exact ⟨fun ⟨⟨a, b⟩, d⟩ => ⟨a, (h l a b).mp d⟩, fun ⟨a, b⟩ => ⟨⟨a, hq l a b⟩, (h l a (hq l a b)).mpr b⟩⟩, Nat.le_trans (List.length_filter_le _ _) hA.few⟩
/-! ### the lists that are sorted -/
theorem lot_len {n : Nat} (hn : n ≤ 8) {l : List Int} (h : Lot n l) : l.length ≤ 8 := by
  have : ∀ (m : List Int) (a : Int), m.Pairwise (· < ·) → (∀ b ∈ m, a ≤ b ∧ b < (n : Int)) → (m.length : Int) ≤ max ((n : Int) - a) 0 := by
    intro m
    induction m with
    | nil => intro a _ _; simp; omega
    | cons b m ih =>
      intro a hp hb
      obtain ⟨p1, p2⟩ := List.pairwise_cons.mp hp
      have h1 := hb b List.mem_cons_self
      have := ih (b + 1) p2 fun c hc => ⟨by have := p1 c hc; omega, (hb c (List.mem_cons_of_mem _ hc)).2⟩
      rw [List.length_cons]; omega
  have := this l 0 h.1 h.2
  omega
theorem pD_list {Fs : List (List Int)} : (Fs.map fun l => D.tup [.int l.length, dt l]) = (Fs.map fun l => ((l.length : Int), l)).map pD := by
  rw [List.map_map]; rfl
end KT

set_option Elab.async false
set_option linter.all false
set_option maxRecDepth 100000
set_option maxHeartbeats 4000000
/-! The pure part: lots listed. -/
namespace KT
open PySem L2 DV
theorem len_lots_of (K : PySem.W.Frag) : ∀ ds P R, sp_lots_of K ds P R → ds.length = 1 := fun _ _ _ ⟨_, e, _⟩ => by rw [e]; rfl
theorem rgI_at {n i : Nat} {x : Int} (h : (rgI n)[i]? = some x) : x = (i : Int) := by
  unfold rgI at h
  rw [List.getElem?_map] at h
  by_cases c : i < n
  · rw [List.getElem?_range c] at h; exact (Option.some.inj h).symm
  · rw [List.getElem?_eq_none (by simpa using c)] at h; cases h
theorem pu_lots_of (K : PySem.W.Frag) : ∀ ds (Po : D → D → Prop) (R : DX → D → Prop), sp_lots_of K ds Po R → B_lots_of K (en0 ["many", "found", "bar", "lot", "size"] ds) { nx := fun _ => Po .non .non, rt := fun d _ => Po d .non, xe := fun y _ => R y .non } := by
  rintro ds Po R ⟨n, rfl, hn, p⟩
  simp only [B_lots_of, sSeq, sIf, sFor, sSet, sSetO, sRet, sRetN, sNx, sNo, sEx, sFz, sFq, sFldS, sSub, sApp, sExt, sDput, sDupd, sAsg, sParSS, sParSO, sParOS, sParOO, eV, eO, eC, eBin, eUn, eCall, eCallO', eCallO, eMake, eMeth, eCallR, eIf, eNot, eAnd, eOr, eTup, eLst, eIxO, ePop, eIndex, eD1, eSl, oNo, oIs, aNil, aCons, aStar, tV, uNot, uAnd, uOr, uYes, dI, dIs, DV.isNon, dLen, dTuple, dNeg, dMax2, dMin2, gN, gT, gsN, ownD, putO, putFD, en0, en1, own0, List.map_cons, List.map_nil, List.replicate, List.cons.injEq, Nat.sub_self, Nat.reduceSub, Nat.reduceAdd, Bool.not_true, Bool.not_false,  List.length_cons, List.length_nil, List.getElem?_cons_zero, List.getElem?_cons_succ, List.set_cons_zero, List.set_cons_succ, List.cons_append, List.nil_append, Option.some.injEq, Sl.s.injEq, Sl.o.injEq, Sl.m.injEq, reduceCtorEq, D.int.injEq, D.bl.injEq, D.lst.injEq, D.tup.injEq, D.str.injEq, D.dic.injEq, D.obj.injEq, bne_self_eq_false, Bool.bne_true, Bool.bne_false, ite_true, ite_false, exists_eq_left', exists_eq_left, exists_eq_right, exists_eq', exists_and_left, exists_const, or_false, false_or, and_true, true_and, and_false, false_and, if_true, if_false, Bool.false_eq_true]
  unfold iR1
  simp only [sSeq, sIf, sFor, sSet, sSetO, sRet, sRetN, sNx, sNo, sEx, sFz, sFq, sFldS, sSub, sApp, sExt, sDput, sDupd, sAsg, sParSS, sParSO, sParOS, sParOO, eV, eO, eC, eBin, eUn, eCall, eCallO', eCallO, eMake, eMeth, eCallR, eIf, eNot, eAnd, eOr, eTup, eLst, eIxO, ePop, eIndex, eD1, eSl, oNo, oIs, aNil, aCons, aStar, tV, uNot, uAnd, uOr, uYes, dI, dIs, DV.isNon, dLen, dTuple, dNeg, dMax2, dMin2, gN, gT, gsN, ownD, putO, putFD, en0, en1, own0, List.map_cons, List.map_nil, List.replicate, List.cons.injEq, Nat.sub_self, Nat.reduceSub, Nat.reduceAdd, Bool.not_true, Bool.not_false,  List.length_cons, List.length_nil, List.getElem?_cons_zero, List.getElem?_cons_succ, List.set_cons_zero, List.set_cons_succ, List.cons_append, List.nil_append, Option.some.injEq, Sl.s.injEq, Sl.o.injEq, Sl.m.injEq, reduceCtorEq, D.int.injEq, D.bl.injEq, D.lst.injEq, D.tup.injEq, D.str.injEq, D.dic.injEq, D.obj.injEq, bne_self_eq_false, Bool.bne_true, Bool.bne_false, ite_true, ite_false, exists_eq_left', exists_eq_left, exists_eq_right, exists_eq', exists_and_left, exists_const, or_false, false_or, and_true, true_and, and_false, false_and, if_true, if_false, Bool.false_eq_true]
  refine ⟨by decide, by decide, by omega, by omega, ?_⟩
  rw [Int.toNat_natCast, rgD_eq]
  refine forD_ind (fun ys ρ => ∃ (k : Nat) (z : Sl), ρ = [.s (.int n), .s (.lst ((allLots k).map dt)), z, .e, .e] ∧ ys.length + k = n ∧ ∀ (i : Nat) (x : Int), ys[i]? = some x → x = ((k + i : Nat) : Int)) ?_ ?_ ⟨0, .e, rfl, by rw [rgI_len]; rfl, fun i x h => by rw [rgI_at h]; simp⟩
  · rintro ρ ⟨k, z, rfl, e, _⟩
    have e : k = n := by simpa using e
    subst e
    simp only [sSeq, sIf, sFor, sSet, sSetO, sRet, sRetN, sNx, sNo, sEx, sFz, sFq, sFldS, sSub, sApp, sExt, sDput, sDupd, sAsg, sParSS, sParSO, sParOS, sParOO, eV, eO, eC, eBin, eUn, eCall, eCallO', eCallO, eMake, eMeth, eCallR, eIf, eNot, eAnd, eOr, eTup, eLst, eIxO, ePop, eIndex, eD1, eSl, oNo, oIs, aNil, aCons, aStar, tV, uNot, uAnd, uOr, uYes, dI, dIs, DV.isNon, dLen, dTuple, dNeg, dMax2, dMin2, gN, gT, gsN, ownD, putO, putFD, en0, en1, own0, List.map_cons, List.map_nil, List.replicate, List.cons.injEq, Nat.sub_self, Nat.reduceSub, Nat.reduceAdd, Bool.not_true, Bool.not_false,  List.length_cons, List.length_nil, List.getElem?_cons_zero, List.getElem?_cons_succ, List.set_cons_zero, List.set_cons_succ, List.cons_append, List.nil_append, Option.some.injEq, Sl.s.injEq, Sl.o.injEq, Sl.m.injEq, reduceCtorEq, D.int.injEq, D.bl.injEq, D.lst.injEq, D.tup.injEq, D.str.injEq, D.dic.injEq, D.obj.injEq, bne_self_eq_false, Bool.bne_true, Bool.bne_false, ite_true, ite_false, exists_eq_left', exists_eq_left, exists_eq_right, exists_eq', exists_and_left, exists_const, or_false, false_or, and_true, true_and, and_false, false_and, if_true, if_false, Bool.false_eq_true]
    unfold eLc iLT
    simp only [sSeq, sIf, sFor, sSet, sSetO, sRet, sRetN, sNx, sNo, sEx, sFz, sFq, sFldS, sSub, sApp, sExt, sDput, sDupd, sAsg, sParSS, sParSO, sParOS, sParOO, eV, eO, eC, eBin, eUn, eCall, eCallO', eCallO, eMake, eMeth, eCallR, eIf, eNot, eAnd, eOr, eTup, eLst, eIxO, ePop, eIndex, eD1, eSl, oNo, oIs, aNil, aCons, aStar, tV, uNot, uAnd, uOr, uYes, dI, dIs, DV.isNon, dLen, dTuple, dNeg, dMax2, dMin2, gN, gT, gsN, ownD, putO, putFD, en0, en1, own0, List.map_cons, List.map_nil, List.replicate, List.cons.injEq, Nat.sub_self, Nat.reduceSub, Nat.reduceAdd, Bool.not_true, Bool.not_false,  List.length_cons, List.length_nil, List.getElem?_cons_zero, List.getElem?_cons_succ, List.set_cons_zero, List.set_cons_succ, List.cons_append, List.nil_append, Option.some.injEq, Sl.s.injEq, Sl.o.injEq, Sl.m.injEq, reduceCtorEq, D.int.injEq, D.bl.injEq, D.lst.injEq, D.tup.injEq, D.str.injEq, D.dic.injEq, D.obj.injEq, bne_self_eq_false, Bool.bne_true, Bool.bne_false, ite_true, ite_false, exists_eq_left', exists_eq_left, exists_eq_right, exists_eq', exists_and_left, exists_const, or_false, false_or, and_true, true_and, and_false, false_and, if_true, if_false, Bool.false_eq_true]
    have hle : (allLots k).length ≤ 256 := by rw [allLots_len]; exact Nat.pow_le_pow_right (n := 2) (by decide) hn
    refine lcQ_p1 (P := fun d ρ => dSortP d fun z => ∃ ds, (z = .lst ds ∨ z = .tup ds) ∧ quiet ρ [4, 3] ∧ lcD [4, 3] (gT [4, 3]) uYes (eV 3) ds [] (blank ρ [4, 3]) (fun acc ρ2 => Po (.tup acc) .non) noR) (allLots k) dt (fun l => [.s (.int k), .s (.lst ((allLots k).map dt)), z, .s (dt l), .e]) (fun l => D.tup [.int l.length, dt l]) (by simp [quiet]) (fun x _ Q q => q) (fun _ _ => rfl) (fun l hl Q q => ?_) (sz (by omega)) ?_
    · simp only [sSeq, sIf, sFor, sSet, sSetO, sRet, sRetN, sNx, sNo, sEx, sFz, sFq, sFldS, sSub, sApp, sExt, sDput, sDupd, sAsg, sParSS, sParSO, sParOS, sParOO, eV, eO, eC, eBin, eUn, eCall, eCallO', eCallO, eMake, eMeth, eCallR, eIf, eNot, eAnd, eOr, eTup, eLst, eIxO, ePop, eIndex, eD1, eSl, oNo, oIs, aNil, aCons, aStar, tV, uNot, uAnd, uOr, uYes, dI, dIs, DV.isNon, dLen, dTuple, dNeg, dMax2, dMin2, gN, gT, gsN, ownD, putO, putFD, en0, en1, own0, List.map_cons, List.map_nil, List.replicate, List.cons.injEq, Nat.sub_self, Nat.reduceSub, Nat.reduceAdd, Bool.not_true, Bool.not_false,  List.length_cons, List.length_nil, List.getElem?_cons_zero, List.getElem?_cons_succ, List.set_cons_zero, List.set_cons_succ, List.cons_append, List.nil_append, Option.some.injEq, Sl.s.injEq, Sl.o.injEq, Sl.m.injEq, reduceCtorEq, D.int.injEq, D.bl.injEq, D.lst.injEq, D.tup.injEq, D.str.injEq, D.dic.injEq, D.obj.injEq, bne_self_eq_false, Bool.bne_true, Bool.bne_false, ite_true, ite_false, exists_eq_left', exists_eq_left, exists_eq_right, exists_eq', exists_and_left, exists_const, or_false, false_or, and_true, true_and, and_false, false_and, if_true, if_false, Bool.false_eq_true, List.length_map]
      exact ⟨by decide, q⟩
    · rw [pD_list]
      refine ⟨_, rfl, fun ps' hs hp => ⟨_, .inl rfl, ?_⟩⟩
      have hB := book_all hn hs hp
      have hlen : ps'.length ≤ 256 := by have := hB.few; rw [List.length_map] at this; exact this
      refine lcQ_p1 (P := fun d ρ => Po (match d with | .lst l => .tup l | d => d) .non) ps' pD (fun p => [.s (.int k), .s (.lst ((allLots k).map dt)), z, .s (dt p.2), .s (.int p.1)]) (fun p => dt p.2) (by simp [quiet]) (fun x _ Q q => ?_) (fun _ _ => rfl) (fun x _ Q q => ⟨_, rfl, q⟩) (sz (by omega)) ?_
      · exact ⟨_, rfl, rfl, q⟩
      · have := p _ hB
        rw [List.map_map] at this
        exact this
  · rintro y ys ρ ⟨k, z, rfl, e, hy⟩ F hF
    have e0 := hy 0 y rfl
    have hk : k ≤ 7 := by simp at e; omega
    have hk2 : 2 ^ k ≤ 2 ^ 7 := Nat.pow_le_pow_right (by decide) hk
    have hle := allLots_len k
    simp only [sSeq, sIf, sFor, sSet, sSetO, sRet, sRetN, sNx, sNo, sEx, sFz, sFq, sFldS, sSub, sApp, sExt, sDput, sDupd, sAsg, sParSS, sParSO, sParOS, sParOO, eV, eO, eC, eBin, eUn, eCall, eCallO', eCallO, eMake, eMeth, eCallR, eIf, eNot, eAnd, eOr, eTup, eLst, eIxO, ePop, eIndex, eD1, eSl, oNo, oIs, aNil, aCons, aStar, tV, uNot, uAnd, uOr, uYes, dI, dIs, DV.isNon, dLen, dTuple, dNeg, dMax2, dMin2, gN, gT, gsN, ownD, putO, putFD, en0, en1, own0, List.map_cons, List.map_nil, List.replicate, List.cons.injEq, Nat.sub_self, Nat.reduceSub, Nat.reduceAdd, Bool.not_true, Bool.not_false,  List.length_cons, List.length_nil, List.getElem?_cons_zero, List.getElem?_cons_succ, List.set_cons_zero, List.set_cons_succ, List.cons_append, List.nil_append, Option.some.injEq, Sl.s.injEq, Sl.o.injEq, Sl.m.injEq, reduceCtorEq, D.int.injEq, D.bl.injEq, D.lst.injEq, D.tup.injEq, D.str.injEq, D.dic.injEq, D.obj.injEq, bne_self_eq_false, Bool.bne_true, Bool.bne_false, ite_true, ite_false, exists_eq_left', exists_eq_left, exists_eq_right, exists_eq', exists_and_left, exists_const, or_false, false_or, and_true, true_and, and_false, false_and, if_true, if_false, Bool.false_eq_true]
    refine eLc_p1 (allLots k) dt (fun l => [.s (.int n), .s (.lst ((allLots k).map dt)), .s (.int y), .s (dt l), .e]) (fun l => dt (l ++ [(k : Int)])) (fun Q q => ⟨_, rfl, _, .inl rfl, q⟩) (by simp [quiet]) (fun x _ Q q => q) (fun _ _ => rfl) (fun l hl Q q => ?_) (sz (by omega)) ?_
    · have := lot_len (by omega) (allLots_lot hl)
      simp only [sSeq, sIf, sFor, sSet, sSetO, sRet, sRetN, sNx, sNo, sEx, sFz, sFq, sFldS, sSub, sApp, sExt, sDput, sDupd, sAsg, sParSS, sParSO, sParOS, sParOO, eV, eO, eC, eBin, eUn, eCall, eCallO', eCallO, eMake, eMeth, eCallR, eIf, eNot, eAnd, eOr, eTup, eLst, eIxO, ePop, eIndex, eD1, eSl, oNo, oIs, aNil, aCons, aStar, tV, uNot, uAnd, uOr, uYes, dI, dIs, DV.isNon, dLen, dTuple, dNeg, dMax2, dMin2, gN, gT, gsN, ownD, putO, putFD, en0, en1, own0, List.map_cons, List.map_nil, List.replicate, List.cons.injEq, Nat.sub_self, Nat.reduceSub, Nat.reduceAdd, Bool.not_true, Bool.not_false,  List.length_cons, List.length_nil, List.getElem?_cons_zero, List.getElem?_cons_succ, List.set_cons_zero, List.set_cons_succ, List.cons_append, List.nil_append, Option.some.injEq, Sl.s.injEq, Sl.o.injEq, Sl.m.injEq, reduceCtorEq, D.int.injEq, D.bl.injEq, D.lst.injEq, D.tup.injEq, D.str.injEq, D.dic.injEq, D.obj.injEq, bne_self_eq_false, Bool.bne_true, Bool.bne_false, ite_true, ite_false, exists_eq_left', exists_eq_left, exists_eq_right, exists_eq', exists_and_left, exists_const, or_false, false_or, and_true, true_and, and_false, false_and, if_true, if_false, Bool.false_eq_true]
      refine ⟨sz (by simp; omega), ?_⟩
      have e2 : D.tup (l.map D.int ++ [D.int y]) = dt (l ++ [(k : Int)]) := by rw [e0]; simp
      rw [e2]; exact q
    · simp only [dAdd, sSeq, sIf, sFor, sSet, sSetO, sRet, sRetN, sNx, sNo, sEx, sFz, sFq, sFldS, sSub, sApp, sExt, sDput, sDupd, sAsg, sParSS, sParSO, sParOS, sParOO, eV, eO, eC, eBin, eUn, eCall, eCallO', eCallO, eMake, eMeth, eCallR, eIf, eNot, eAnd, eOr, eTup, eLst, eIxO, ePop, eIndex, eD1, eSl, oNo, oIs, aNil, aCons, aStar, tV, uNot, uAnd, uOr, uYes, dI, dIs, DV.isNon, dLen, dTuple, dNeg, dMax2, dMin2, gN, gT, gsN, ownD, putO, putFD, en0, en1, own0, List.map_cons, List.map_nil, List.replicate, List.cons.injEq, Nat.sub_self, Nat.reduceSub, Nat.reduceAdd, Bool.not_true, Bool.not_false,  List.length_cons, List.length_nil, List.getElem?_cons_zero, List.getElem?_cons_succ, List.set_cons_zero, List.set_cons_succ, List.cons_append, List.nil_append, Option.some.injEq, Sl.s.injEq, Sl.o.injEq, Sl.m.injEq, reduceCtorEq, D.int.injEq, D.bl.injEq, D.lst.injEq, D.tup.injEq, D.str.injEq, D.dic.injEq, D.obj.injEq, bne_self_eq_false, Bool.bne_true, Bool.bne_false, ite_true, ite_false, exists_eq_left', exists_eq_left, exists_eq_right, exists_eq', exists_and_left, exists_const, or_false, false_or, and_true, true_and, and_false, false_and, if_true, if_false, Bool.false_eq_true, List.length_map]
      refine ⟨sz (by omega), hF _ ⟨k + 1, .s (.int y), ?_, by simp at e ⊢; omega, fun i x h => ?_⟩⟩
      · rw [allLots, List.map_append, List.map_map]; rfl
      · rw [hy (i + 1) x (by simpa using h)]; congr 1; omega
end KT

set_option Elab.async false
set_option linter.all false
set_option maxRecDepth 100000
set_option maxHeartbeats 4000000
/-! The pure part: books. -/
namespace KT
open PySem L2 DV
theorem len__law_lots (K : PySem.W.Frag) : ∀ ds P R, sp__law_lots K ds P R → ds.length = 1 := fun _ _ _ ⟨_, e, _⟩ => by rw [e]; rfl
theorem pu__law_lots (K : PySem.W.Frag) : ∀ ds (Po : D → D → Prop) (R : DX → D → Prop), sp__law_lots K ds Po R → B__law_lots K (en0 ["_law_many", "_law_found", "_law_bar", "_law_lot", "_law_size"] ds) { nx := fun _ => Po .non .non, rt := fun d _ => Po d .non, xe := fun y _ => R y .non } := by
  rintro ds Po R ⟨n, rfl, hn, p⟩
  simp only [B__law_lots, sSeq, sIf, sFor, sSet, sSetO, sRet, sRetN, sNx, sNo, sEx, sFz, sFq, sFldS, sSub, sApp, sExt, sDput, sDupd, sAsg, sParSS, sParSO, sParOS, sParOO, eV, eO, eC, eBin, eUn, eCall, eCallO', eCallO, eMake, eMeth, eCallR, eIf, eNot, eAnd, eOr, eTup, eLst, eIxO, ePop, eIndex, eD1, eSl, oNo, oIs, aNil, aCons, aStar, tV, uNot, uAnd, uOr, uYes, dI, dIs, DV.isNon, dLen, dTuple, dNeg, dMax2, dMin2, gN, gT, gsN, ownD, putO, putFD, en0, en1, own0, List.map_cons, List.map_nil, List.replicate, List.cons.injEq, Nat.sub_self, Nat.reduceSub, Nat.reduceAdd, Bool.not_true, Bool.not_false,  List.length_cons, List.length_nil, List.getElem?_cons_zero, List.getElem?_cons_succ, List.set_cons_zero, List.set_cons_succ, List.cons_append, List.nil_append, Option.some.injEq, Sl.s.injEq, Sl.o.injEq, Sl.m.injEq, reduceCtorEq, D.int.injEq, D.bl.injEq, D.lst.injEq, D.tup.injEq, D.str.injEq, D.dic.injEq, D.obj.injEq, bne_self_eq_false, Bool.bne_true, Bool.bne_false, ite_true, ite_false, exists_eq_left', exists_eq_left, exists_eq_right, exists_eq', exists_and_left, exists_const, or_false, false_or, and_true, true_and, and_false, false_and, if_true, if_false, Bool.false_eq_true]
  unfold iR1
  simp only [sSeq, sIf, sFor, sSet, sSetO, sRet, sRetN, sNx, sNo, sEx, sFz, sFq, sFldS, sSub, sApp, sExt, sDput, sDupd, sAsg, sParSS, sParSO, sParOS, sParOO, eV, eO, eC, eBin, eUn, eCall, eCallO', eCallO, eMake, eMeth, eCallR, eIf, eNot, eAnd, eOr, eTup, eLst, eIxO, ePop, eIndex, eD1, eSl, oNo, oIs, aNil, aCons, aStar, tV, uNot, uAnd, uOr, uYes, dI, dIs, DV.isNon, dLen, dTuple, dNeg, dMax2, dMin2, gN, gT, gsN, ownD, putO, putFD, en0, en1, own0, List.map_cons, List.map_nil, List.replicate, List.cons.injEq, Nat.sub_self, Nat.reduceSub, Nat.reduceAdd, Bool.not_true, Bool.not_false,  List.length_cons, List.length_nil, List.getElem?_cons_zero, List.getElem?_cons_succ, List.set_cons_zero, List.set_cons_succ, List.cons_append, List.nil_append, Option.some.injEq, Sl.s.injEq, Sl.o.injEq, Sl.m.injEq, reduceCtorEq, D.int.injEq, D.bl.injEq, D.lst.injEq, D.tup.injEq, D.str.injEq, D.dic.injEq, D.obj.injEq, bne_self_eq_false, Bool.bne_true, Bool.bne_false, ite_true, ite_false, exists_eq_left', exists_eq_left, exists_eq_right, exists_eq', exists_and_left, exists_const, or_false, false_or, and_true, true_and, and_false, false_and, if_true, if_false, Bool.false_eq_true]
  refine ⟨by decide, by decide, by omega, by omega, ?_⟩
  rw [Int.toNat_natCast, rgD_eq]
  refine forD_ind (fun ys ρ => ∃ (k : Nat) (z : Sl), ρ = [.s (.int n), .s (.lst ((allLots k).map dt)), z, .e, .e] ∧ ys.length + k = n ∧ ∀ (i : Nat) (x : Int), ys[i]? = some x → x = ((k + i : Nat) : Int)) ?_ ?_ ⟨0, .e, rfl, by rw [rgI_len]; rfl, fun i x h => by rw [rgI_at h]; simp⟩
  · rintro ρ ⟨k, z, rfl, e, _⟩
    have e : k = n := by simpa using e
    subst e
    simp only [sSeq, sIf, sFor, sSet, sSetO, sRet, sRetN, sNx, sNo, sEx, sFz, sFq, sFldS, sSub, sApp, sExt, sDput, sDupd, sAsg, sParSS, sParSO, sParOS, sParOO, eV, eO, eC, eBin, eUn, eCall, eCallO', eCallO, eMake, eMeth, eCallR, eIf, eNot, eAnd, eOr, eTup, eLst, eIxO, ePop, eIndex, eD1, eSl, oNo, oIs, aNil, aCons, aStar, tV, uNot, uAnd, uOr, uYes, dI, dIs, DV.isNon, dLen, dTuple, dNeg, dMax2, dMin2, gN, gT, gsN, ownD, putO, putFD, en0, en1, own0, List.map_cons, List.map_nil, List.replicate, List.cons.injEq, Nat.sub_self, Nat.reduceSub, Nat.reduceAdd, Bool.not_true, Bool.not_false,  List.length_cons, List.length_nil, List.getElem?_cons_zero, List.getElem?_cons_succ, List.set_cons_zero, List.set_cons_succ, List.cons_append, List.nil_append, Option.some.injEq, Sl.s.injEq, Sl.o.injEq, Sl.m.injEq, reduceCtorEq, D.int.injEq, D.bl.injEq, D.lst.injEq, D.tup.injEq, D.str.injEq, D.dic.injEq, D.obj.injEq, bne_self_eq_false, Bool.bne_true, Bool.bne_false, ite_true, ite_false, exists_eq_left', exists_eq_left, exists_eq_right, exists_eq', exists_and_left, exists_const, or_false, false_or, and_true, true_and, and_false, false_and, if_true, if_false, Bool.false_eq_true]
    unfold eLc iLT
    simp only [sSeq, sIf, sFor, sSet, sSetO, sRet, sRetN, sNx, sNo, sEx, sFz, sFq, sFldS, sSub, sApp, sExt, sDput, sDupd, sAsg, sParSS, sParSO, sParOS, sParOO, eV, eO, eC, eBin, eUn, eCall, eCallO', eCallO, eMake, eMeth, eCallR, eIf, eNot, eAnd, eOr, eTup, eLst, eIxO, ePop, eIndex, eD1, eSl, oNo, oIs, aNil, aCons, aStar, tV, uNot, uAnd, uOr, uYes, dI, dIs, DV.isNon, dLen, dTuple, dNeg, dMax2, dMin2, gN, gT, gsN, ownD, putO, putFD, en0, en1, own0, List.map_cons, List.map_nil, List.replicate, List.cons.injEq, Nat.sub_self, Nat.reduceSub, Nat.reduceAdd, Bool.not_true, Bool.not_false,  List.length_cons, List.length_nil, List.getElem?_cons_zero, List.getElem?_cons_succ, List.set_cons_zero, List.set_cons_succ, List.cons_append, List.nil_append, Option.some.injEq, Sl.s.injEq, Sl.o.injEq, Sl.m.injEq, reduceCtorEq, D.int.injEq, D.bl.injEq, D.lst.injEq, D.tup.injEq, D.str.injEq, D.dic.injEq, D.obj.injEq, bne_self_eq_false, Bool.bne_true, Bool.bne_false, ite_true, ite_false, exists_eq_left', exists_eq_left, exists_eq_right, exists_eq', exists_and_left, exists_const, or_false, false_or, and_true, true_and, and_false, false_and, if_true, if_false, Bool.false_eq_true]
    have hle : (allLots k).length ≤ 256 := by rw [allLots_len]; exact Nat.pow_le_pow_right (n := 2) (by decide) hn
    refine lcQ_p1 (P := fun d ρ => dSortP d fun z => ∃ ds, (z = .lst ds ∨ z = .tup ds) ∧ quiet ρ [4, 3] ∧ lcD [4, 3] (gT [4, 3]) uYes (eV 3) ds [] (blank ρ [4, 3]) (fun acc ρ2 => Po (.lst acc) .non) noR) (allLots k) dt (fun l => [.s (.int k), .s (.lst ((allLots k).map dt)), z, .s (dt l), .e]) (fun l => D.tup [.int l.length, dt l]) (by simp [quiet]) (fun x _ Q q => q) (fun _ _ => rfl) (fun l hl Q q => ?_) (sz (by omega)) ?_
    · simp only [sSeq, sIf, sFor, sSet, sSetO, sRet, sRetN, sNx, sNo, sEx, sFz, sFq, sFldS, sSub, sApp, sExt, sDput, sDupd, sAsg, sParSS, sParSO, sParOS, sParOO, eV, eO, eC, eBin, eUn, eCall, eCallO', eCallO, eMake, eMeth, eCallR, eIf, eNot, eAnd, eOr, eTup, eLst, eIxO, ePop, eIndex, eD1, eSl, oNo, oIs, aNil, aCons, aStar, tV, uNot, uAnd, uOr, uYes, dI, dIs, DV.isNon, dLen, dTuple, dNeg, dMax2, dMin2, gN, gT, gsN, ownD, putO, putFD, en0, en1, own0, List.map_cons, List.map_nil, List.replicate, List.cons.injEq, Nat.sub_self, Nat.reduceSub, Nat.reduceAdd, Bool.not_true, Bool.not_false,  List.length_cons, List.length_nil, List.getElem?_cons_zero, List.getElem?_cons_succ, List.set_cons_zero, List.set_cons_succ, List.cons_append, List.nil_append, Option.some.injEq, Sl.s.injEq, Sl.o.injEq, Sl.m.injEq, reduceCtorEq, D.int.injEq, D.bl.injEq, D.lst.injEq, D.tup.injEq, D.str.injEq, D.dic.injEq, D.obj.injEq, bne_self_eq_false, Bool.bne_true, Bool.bne_false, ite_true, ite_false, exists_eq_left', exists_eq_left, exists_eq_right, exists_eq', exists_and_left, exists_const, or_false, false_or, and_true, true_and, and_false, false_and, if_true, if_false, Bool.false_eq_true, List.length_map]
      exact ⟨by decide, q⟩
    · rw [pD_list]
      refine ⟨_, rfl, fun ps' hs hp => ⟨_, .inl rfl, ?_⟩⟩
      have hB := book_all hn hs hp
      have hlen : ps'.length ≤ 256 := by have := hB.few; rw [List.length_map] at this; exact this
      refine lcQ_p1 (P := fun d ρ => Po d .non) ps' pD (fun p => [.s (.int k), .s (.lst ((allLots k).map dt)), z, .s (dt p.2), .s (.int p.1)]) (fun p => dt p.2) (by simp [quiet]) (fun x _ Q q => ?_) (fun _ _ => rfl) (fun x _ Q q => ⟨_, rfl, q⟩) (sz (by omega)) ?_
      · exact ⟨_, rfl, rfl, q⟩
      · have := p _ hB
        rw [List.map_map] at this
        exact this
  · rintro y ys ρ ⟨k, z, rfl, e, hy⟩ F hF
    have e0 := hy 0 y rfl
    have hk : k ≤ 7 := by simp at e; omega
    have hk2 : 2 ^ k ≤ 2 ^ 7 := Nat.pow_le_pow_right (by decide) hk
    have hle := allLots_len k
    simp only [sSeq, sIf, sFor, sSet, sSetO, sRet, sRetN, sNx, sNo, sEx, sFz, sFq, sFldS, sSub, sApp, sExt, sDput, sDupd, sAsg, sParSS, sParSO, sParOS, sParOO, eV, eO, eC, eBin, eUn, eCall, eCallO', eCallO, eMake, eMeth, eCallR, eIf, eNot, eAnd, eOr, eTup, eLst, eIxO, ePop, eIndex, eD1, eSl, oNo, oIs, aNil, aCons, aStar, tV, uNot, uAnd, uOr, uYes, dI, dIs, DV.isNon, dLen, dTuple, dNeg, dMax2, dMin2, gN, gT, gsN, ownD, putO, putFD, en0, en1, own0, List.map_cons, List.map_nil, List.replicate, List.cons.injEq, Nat.sub_self, Nat.reduceSub, Nat.reduceAdd, Bool.not_true, Bool.not_false,  List.length_cons, List.length_nil, List.getElem?_cons_zero, List.getElem?_cons_succ, List.set_cons_zero, List.set_cons_succ, List.cons_append, List.nil_append, Option.some.injEq, Sl.s.injEq, Sl.o.injEq, Sl.m.injEq, reduceCtorEq, D.int.injEq, D.bl.injEq, D.lst.injEq, D.tup.injEq, D.str.injEq, D.dic.injEq, D.obj.injEq, bne_self_eq_false, Bool.bne_true, Bool.bne_false, ite_true, ite_false, exists_eq_left', exists_eq_left, exists_eq_right, exists_eq', exists_and_left, exists_const, or_false, false_or, and_true, true_and, and_false, false_and, if_true, if_false, Bool.false_eq_true]
    refine eLc_p1 (allLots k) dt (fun l => [.s (.int n), .s (.lst ((allLots k).map dt)), .s (.int y), .s (dt l), .e]) (fun l => dt (l ++ [(k : Int)])) (fun Q q => ⟨_, rfl, _, .inl rfl, q⟩) (by simp [quiet]) (fun x _ Q q => q) (fun _ _ => rfl) (fun l hl Q q => ?_) (sz (by omega)) ?_
    · have := lot_len (by omega) (allLots_lot hl)
      simp only [sSeq, sIf, sFor, sSet, sSetO, sRet, sRetN, sNx, sNo, sEx, sFz, sFq, sFldS, sSub, sApp, sExt, sDput, sDupd, sAsg, sParSS, sParSO, sParOS, sParOO, eV, eO, eC, eBin, eUn, eCall, eCallO', eCallO, eMake, eMeth, eCallR, eIf, eNot, eAnd, eOr, eTup, eLst, eIxO, ePop, eIndex, eD1, eSl, oNo, oIs, aNil, aCons, aStar, tV, uNot, uAnd, uOr, uYes, dI, dIs, DV.isNon, dLen, dTuple, dNeg, dMax2, dMin2, gN, gT, gsN, ownD, putO, putFD, en0, en1, own0, List.map_cons, List.map_nil, List.replicate, List.cons.injEq, Nat.sub_self, Nat.reduceSub, Nat.reduceAdd, Bool.not_true, Bool.not_false,  List.length_cons, List.length_nil, List.getElem?_cons_zero, List.getElem?_cons_succ, List.set_cons_zero, List.set_cons_succ, List.cons_append, List.nil_append, Option.some.injEq, Sl.s.injEq, Sl.o.injEq, Sl.m.injEq, reduceCtorEq, D.int.injEq, D.bl.injEq, D.lst.injEq, D.tup.injEq, D.str.injEq, D.dic.injEq, D.obj.injEq, bne_self_eq_false, Bool.bne_true, Bool.bne_false, ite_true, ite_false, exists_eq_left', exists_eq_left, exists_eq_right, exists_eq', exists_and_left, exists_const, or_false, false_or, and_true, true_and, and_false, false_and, if_true, if_false, Bool.false_eq_true, dAdd]
      refine ⟨by decide, sz (by simp; omega), ?_⟩
      have e2 : D.tup (l.map D.int ++ [D.int y]) = dt (l ++ [(k : Int)]) := by rw [e0]; simp
      rw [e2]; exact q
    · simp only [dAdd, sSeq, sIf, sFor, sSet, sSetO, sRet, sRetN, sNx, sNo, sEx, sFz, sFq, sFldS, sSub, sApp, sExt, sDput, sDupd, sAsg, sParSS, sParSO, sParOS, sParOO, eV, eO, eC, eBin, eUn, eCall, eCallO', eCallO, eMake, eMeth, eCallR, eIf, eNot, eAnd, eOr, eTup, eLst, eIxO, ePop, eIndex, eD1, eSl, oNo, oIs, aNil, aCons, aStar, tV, uNot, uAnd, uOr, uYes, dI, dIs, DV.isNon, dLen, dTuple, dNeg, dMax2, dMin2, gN, gT, gsN, ownD, putO, putFD, en0, en1, own0, List.map_cons, List.map_nil, List.replicate, List.cons.injEq, Nat.sub_self, Nat.reduceSub, Nat.reduceAdd, Bool.not_true, Bool.not_false,  List.length_cons, List.length_nil, List.getElem?_cons_zero, List.getElem?_cons_succ, List.set_cons_zero, List.set_cons_succ, List.cons_append, List.nil_append, Option.some.injEq, Sl.s.injEq, Sl.o.injEq, Sl.m.injEq, reduceCtorEq, D.int.injEq, D.bl.injEq, D.lst.injEq, D.tup.injEq, D.str.injEq, D.dic.injEq, D.obj.injEq, bne_self_eq_false, Bool.bne_true, Bool.bne_false, ite_true, ite_false, exists_eq_left', exists_eq_left, exists_eq_right, exists_eq', exists_and_left, exists_const, or_false, false_or, and_true, true_and, and_false, false_and, if_true, if_false, Bool.false_eq_true, List.length_map]
      refine ⟨sz (by omega), hF _ ⟨k + 1, .s (.int y), ?_, by simp at e ⊢; omega, fun i x h => ?_⟩⟩
      · rw [allLots, List.map_append, List.map_map]; rfl
      · rw [hy (i + 1) x (by simpa using h)]; congr 1; omega
theorem len_lots_sorted (K : PySem.W.Frag) : ∀ ds P R, sp_lots_sorted K ds P R → ds.length = 2 := fun _ _ _ ⟨_, _, e, _⟩ => by rw [e]; rfl
theorem pu_lots_sorted (K : PySem.W.Frag) : ∀ ds (Po : D → D → Prop) (R : DX → D → Prop), sp_lots_sorted K ds Po R → B_lots_sorted K (en0 ["ring", "sort", "lot"] ds) { nx := fun _ => Po .non .non, rt := fun d _ => Po d .non, xe := fun y _ => R y .non } := by
  rintro ds Po R ⟨L, s, rfl, hs, ok, p⟩
  simp only [B_lots_sorted, sSeq, sIf, sFor, sSet, sSetO, sRet, sRetN, sNx, sNo, sEx, sFz, sFq, sFldS, sSub, sApp, sExt, sDput, sDupd, sAsg, sParSS, sParSO, sParOS, sParOO, eV, eO, eC, eBin, eUn, eCall, eCallO', eCallO, eMake, eMeth, eCallR, eIf, eNot, eAnd, eOr, eTup, eLst, eIxO, ePop, eIndex, eD1, eSl, oNo, oIs, aNil, aCons, aStar, tV, uNot, uAnd, uOr, uYes, dI, dIs, DV.isNon, dLen, dTuple, dNeg, dMax2, dMin2, gN, gT, gsN, ownD, putO, putFD, en0, en1, own0, List.map_cons, List.map_nil, List.replicate, List.cons.injEq, Nat.sub_self, Nat.reduceSub, Nat.reduceAdd, Bool.not_true, Bool.not_false,  List.length_cons, List.length_nil, List.getElem?_cons_zero, List.getElem?_cons_succ, List.set_cons_zero, List.set_cons_succ, List.cons_append, List.nil_append, Option.some.injEq, Sl.s.injEq, Sl.o.injEq, Sl.m.injEq, reduceCtorEq, D.int.injEq, D.bl.injEq, D.lst.injEq, D.tup.injEq, D.str.injEq, D.dic.injEq, D.obj.injEq, bne_self_eq_false, Bool.bne_true, Bool.bne_false, ite_true, ite_false, exists_eq_left', exists_eq_left, exists_eq_right, exists_eq', exists_and_left, exists_const, or_false, false_or, and_true, true_and, and_false, false_and, if_true, if_false, Bool.false_eq_true]
  unfold eLc iLT
  simp only [sSeq, sIf, sFor, sSet, sSetO, sRet, sRetN, sNx, sNo, sEx, sFz, sFq, sFldS, sSub, sApp, sExt, sDput, sDupd, sAsg, sParSS, sParSO, sParOS, sParOO, eV, eO, eC, eBin, eUn, eCall, eCallO', eCallO, eMake, eMeth, eCallR, eIf, eNot, eAnd, eOr, eTup, eLst, eIxO, ePop, eIndex, eD1, eSl, oNo, oIs, aNil, aCons, aStar, tV, uNot, uAnd, uOr, uYes, dI, dIs, DV.isNon, dLen, dTuple, dNeg, dMax2, dMin2, gN, gT, gsN, ownD, putO, putFD, en0, en1, own0, List.map_cons, List.map_nil, List.replicate, List.cons.injEq, Nat.sub_self, Nat.reduceSub, Nat.reduceAdd, Bool.not_true, Bool.not_false,  List.length_cons, List.length_nil, List.getElem?_cons_zero, List.getElem?_cons_succ, List.set_cons_zero, List.set_cons_succ, List.cons_append, List.nil_append, Option.some.injEq, Sl.s.injEq, Sl.o.injEq, Sl.m.injEq, reduceCtorEq, D.int.injEq, D.bl.injEq, D.lst.injEq, D.tup.injEq, D.str.injEq, D.dic.injEq, D.obj.injEq, bne_self_eq_false, Bool.bne_true, Bool.bne_false, ite_true, ite_false, exists_eq_left', exists_eq_left, exists_eq_right, exists_eq', exists_and_left, exists_const, or_false, false_or, and_true, true_and, and_false, false_and, if_true, if_false, Bool.false_eq_true, fld_l, dLen, List.length_map]
  refine ⟨L.length, rfl, ok.hi, fun Ls hB => ⟨_, .inr rfl, ?_⟩⟩
  have hf := hB.few
  refine lcQ_p (P := fun d ρ => Po (match d with | .lst l => .tup l | d => d) .non) Ls dt (fun l => [.s (ringD K L), .s (.str s), .s (dt l)]) (fun l => decide (srt L l = s)) dt (by simp [quiet]) (fun x _ Q q => q) (fun _ _ => rfl) (fun l hl Q q => ?_) (fun x _ _ Q q => ⟨_, rfl, q⟩) (sz (by omega)) ?_
  · have hl := (hB.mem l).mp hl
    simp only [sSeq, sIf, sFor, sSet, sSetO, sRet, sRetN, sNx, sNo, sEx, sFz, sFq, sFldS, sSub, sApp, sExt, sDput, sDupd, sAsg, sParSS, sParSO, sParOS, sParOO, eV, eO, eC, eBin, eUn, eCall, eCallO', eCallO, eMake, eMeth, eCallR, eIf, eNot, eAnd, eOr, eTup, eLst, eIxO, ePop, eIndex, eD1, eSl, oNo, oIs, aNil, aCons, aStar, tV, uNot, uAnd, uOr, uYes, dI, dIs, DV.isNon, dLen, dTuple, dNeg, dMax2, dMin2, gN, gT, gsN, ownD, putO, putFD, en0, en1, own0, List.map_cons, List.map_nil, List.replicate, List.cons.injEq, Nat.sub_self, Nat.reduceSub, Nat.reduceAdd, Bool.not_true, Bool.not_false,  List.length_cons, List.length_nil, List.getElem?_cons_zero, List.getElem?_cons_succ, List.set_cons_zero, List.set_cons_succ, List.cons_append, List.nil_append, Option.some.injEq, Sl.s.injEq, Sl.o.injEq, Sl.m.injEq, reduceCtorEq, D.int.injEq, D.bl.injEq, D.lst.injEq, D.tup.injEq, D.str.injEq, D.dic.injEq, D.obj.injEq, bne_self_eq_false, Bool.bne_true, Bool.bne_false, ite_true, ite_false, exists_eq_left', exists_eq_left, exists_eq_right, exists_eq', exists_and_left, exists_const, or_false, false_or, and_true, true_and, and_false, false_and, if_true, if_false, Bool.false_eq_true]
    refine ⟨L, l, dt l, rfl, .inr rfl, ok, hl.1.2, by have := lot_len ok.hi hl.1; omega, ?_⟩
    refine eq_ss sh_srt hs ⟨_, rfl, ?_⟩
    rw [Bool.bne_false]; exact q
  · refine p _ (hB.filter (fun l _ _ => ?_) fun _ _ _ => trivial)
    exact decide_eq_true_iff
theorem len_short_lots (K : PySem.W.Frag) : ∀ ds P R, sp_short_lots K ds P R → ds.length = 1 := fun _ _ _ ⟨_, e, _⟩ => by rw [e]; rfl
theorem pu_short_lots (K : PySem.W.Frag) : ∀ ds (Po : D → D → Prop) (R : DX → D → Prop), sp_short_lots K ds Po R → B_short_lots K (en0 ["ring"] ds) { nx := fun _ => Po .non .non, rt := fun d _ => Po d .non, xe := fun y _ => R y .non } := by
  rintro ds Po R ⟨L, rfl, ok, p⟩
  simp only [B_short_lots, sSeq, sIf, sFor, sSet, sSetO, sRet, sRetN, sNx, sNo, sEx, sFz, sFq, sFldS, sSub, sApp, sExt, sDput, sDupd, sAsg, sParSS, sParSO, sParOS, sParOO, eV, eO, eC, eBin, eUn, eCall, eCallO', eCallO, eMake, eMeth, eCallR, eIf, eNot, eAnd, eOr, eTup, eLst, eIxO, ePop, eIndex, eD1, eSl, oNo, oIs, aNil, aCons, aStar, tV, uNot, uAnd, uOr, uYes, dI, dIs, DV.isNon, dLen, dTuple, dNeg, dMax2, dMin2, gN, gT, gsN, ownD, putO, putFD, en0, en1, own0, List.map_cons, List.map_nil, List.replicate, List.cons.injEq, Nat.sub_self, Nat.reduceSub, Nat.reduceAdd, Bool.not_true, Bool.not_false,  List.length_cons, List.length_nil, List.getElem?_cons_zero, List.getElem?_cons_succ, List.set_cons_zero, List.set_cons_succ, List.cons_append, List.nil_append, Option.some.injEq, Sl.s.injEq, Sl.o.injEq, Sl.m.injEq, reduceCtorEq, D.int.injEq, D.bl.injEq, D.lst.injEq, D.tup.injEq, D.str.injEq, D.dic.injEq, D.obj.injEq, bne_self_eq_false, Bool.bne_true, Bool.bne_false, ite_true, ite_false, exists_eq_left', exists_eq_left, exists_eq_right, exists_eq', exists_and_left, exists_const, or_false, false_or, and_true, true_and, and_false, false_and, if_true, if_false, Bool.false_eq_true]
  exact ⟨L, "ring", rfl, L, "short", rfl, sh_short, ok, p⟩
theorem len_level_lots (K : PySem.W.Frag) : ∀ ds P R, sp_level_lots K ds P R → ds.length = 1 := fun _ _ _ ⟨_, e, _⟩ => by rw [e]; rfl
theorem pu_level_lots (K : PySem.W.Frag) : ∀ ds (Po : D → D → Prop) (R : DX → D → Prop), sp_level_lots K ds Po R → B_level_lots K (en0 ["ring"] ds) { nx := fun _ => Po .non .non, rt := fun d _ => Po d .non, xe := fun y _ => R y .non } := by
  rintro ds Po R ⟨L, rfl, ok, p⟩
  simp only [B_level_lots, sSeq, sIf, sFor, sSet, sSetO, sRet, sRetN, sNx, sNo, sEx, sFz, sFq, sFldS, sSub, sApp, sExt, sDput, sDupd, sAsg, sParSS, sParSO, sParOS, sParOO, eV, eO, eC, eBin, eUn, eCall, eCallO', eCallO, eMake, eMeth, eCallR, eIf, eNot, eAnd, eOr, eTup, eLst, eIxO, ePop, eIndex, eD1, eSl, oNo, oIs, aNil, aCons, aStar, tV, uNot, uAnd, uOr, uYes, dI, dIs, DV.isNon, dLen, dTuple, dNeg, dMax2, dMin2, gN, gT, gsN, ownD, putO, putFD, en0, en1, own0, List.map_cons, List.map_nil, List.replicate, List.cons.injEq, Nat.sub_self, Nat.reduceSub, Nat.reduceAdd, Bool.not_true, Bool.not_false,  List.length_cons, List.length_nil, List.getElem?_cons_zero, List.getElem?_cons_succ, List.set_cons_zero, List.set_cons_succ, List.cons_append, List.nil_append, Option.some.injEq, Sl.s.injEq, Sl.o.injEq, Sl.m.injEq, reduceCtorEq, D.int.injEq, D.bl.injEq, D.lst.injEq, D.tup.injEq, D.str.injEq, D.dic.injEq, D.obj.injEq, bne_self_eq_false, Bool.bne_true, Bool.bne_false, ite_true, ite_false, exists_eq_left', exists_eq_left, exists_eq_right, exists_eq', exists_and_left, exists_const, or_false, false_or, and_true, true_and, and_false, false_and, if_true, if_false, Bool.false_eq_true]
  exact ⟨L, "ring", rfl, L, "level", rfl, sh_level, ok, p⟩
theorem len_less_by_one (K : PySem.W.Frag) : ∀ ds P R, sp_less_by_one K ds P R → ds.length = 1 := fun _ _ _ ⟨_, e, _⟩ => by rw [e]; rfl
theorem pu_less_by_one (K : PySem.W.Frag) : ∀ ds (Po : D → D → Prop) (R : DX → D → Prop), sp_less_by_one K ds Po R → B_less_by_one K (en0 ["lot", "at"] ds) { nx := fun _ => Po .non .non, rt := fun d _ => Po d .non, xe := fun y _ => R y .non } := by
  rintro ds Po R ⟨lot, rfl, hl, p⟩
  simp only [B_less_by_one, sSeq, sIf, sFor, sSet, sSetO, sRet, sRetN, sNx, sNo, sEx, sFz, sFq, sFldS, sSub, sApp, sExt, sDput, sDupd, sAsg, sParSS, sParSO, sParOS, sParOO, eV, eO, eC, eBin, eUn, eCall, eCallO', eCallO, eMake, eMeth, eCallR, eIf, eNot, eAnd, eOr, eTup, eLst, eIxO, ePop, eIndex, eD1, eSl, oNo, oIs, aNil, aCons, aStar, tV, uNot, uAnd, uOr, uYes, dI, dIs, DV.isNon, dLen, dTuple, dNeg, dMax2, dMin2, gN, gT, gsN, ownD, putO, putFD, en0, en1, own0, List.map_cons, List.map_nil, List.replicate, List.cons.injEq, Nat.sub_self, Nat.reduceSub, Nat.reduceAdd, Bool.not_true, Bool.not_false,  List.length_cons, List.length_nil, List.getElem?_cons_zero, List.getElem?_cons_succ, List.set_cons_zero, List.set_cons_succ, List.cons_append, List.nil_append, Option.some.injEq, Sl.s.injEq, Sl.o.injEq, Sl.m.injEq, reduceCtorEq, D.int.injEq, D.bl.injEq, D.lst.injEq, D.tup.injEq, D.str.injEq, D.dic.injEq, D.obj.injEq, bne_self_eq_false, Bool.bne_true, Bool.bne_false, ite_true, ite_false, exists_eq_left', exists_eq_left, exists_eq_right, exists_eq', exists_and_left, exists_const, or_false, false_or, and_true, true_and, and_false, false_and, if_true, if_false, Bool.false_eq_true]
  refine eLc_p1 (rgI lot.length) D.int (fun x => [.s (dt lot), .s (.int x)]) (fun x => dt (lot.take x.toNat ++ lot.drop (x.toNat + 1))) (fun Q q => ?_) (by simp [quiet]) (fun x _ Q q => q) (fun _ _ => rfl) (fun x hx Q q => ?_) (sz (by rw [rgI_len]; omega)) ?_
  · unfold iR1
    simp only [sSeq, sIf, sFor, sSet, sSetO, sRet, sRetN, sNx, sNo, sEx, sFz, sFq, sFldS, sSub, sApp, sExt, sDput, sDupd, sAsg, sParSS, sParSO, sParOS, sParOO, eV, eO, eC, eBin, eUn, eCall, eCallO', eCallO, eMake, eMeth, eCallR, eIf, eNot, eAnd, eOr, eTup, eLst, eIxO, ePop, eIndex, eD1, eSl, oNo, oIs, aNil, aCons, aStar, tV, uNot, uAnd, uOr, uYes, dI, dIs, DV.isNon, dLen, dTuple, dNeg, dMax2, dMin2, gN, gT, gsN, ownD, putO, putFD, en0, en1, own0, List.map_cons, List.map_nil, List.replicate, List.cons.injEq, Nat.sub_self, Nat.reduceSub, Nat.reduceAdd, Bool.not_true, Bool.not_false,  List.length_cons, List.length_nil, List.getElem?_cons_zero, List.getElem?_cons_succ, List.set_cons_zero, List.set_cons_succ, List.cons_append, List.nil_append, Option.some.injEq, Sl.s.injEq, Sl.o.injEq, Sl.m.injEq, reduceCtorEq, D.int.injEq, D.bl.injEq, D.lst.injEq, D.tup.injEq, D.str.injEq, D.dic.injEq, D.obj.injEq, bne_self_eq_false, Bool.bne_true, Bool.bne_false, ite_true, ite_false, exists_eq_left', exists_eq_left, exists_eq_right, exists_eq', exists_and_left, exists_const, or_false, false_or, and_true, true_and, and_false, false_and, if_true, if_false, Bool.false_eq_true, dLen, List.length_map]
    refine ⟨by omega, by omega, ?_⟩
    rw [Int.toNat_natCast, rgD_eq]; exact q
  · have hb := rgI_mem.mp hx
    obtain ⟨i, rfl⟩ : ∃ i : Nat, x = i := ⟨x.toNat, by omega⟩
    have c1 := cut_to (L := lot) (b := i) (by omega)
    have c2 : cutD (lot.map D.int) (some ((i : Int) + 1)) none = (lot.drop (i + 1)).map D.int := cut_from (L := lot) (b := i + 1) (by omega)
    simp only [sSeq, sIf, sFor, sSet, sSetO, sRet, sRetN, sNx, sNo, sEx, sFz, sFq, sFldS, sSub, sApp, sExt, sDput, sDupd, sAsg, sParSS, sParSO, sParOS, sParOO, eV, eO, eC, eBin, eUn, eCall, eCallO', eCallO, eMake, eMeth, eCallR, eIf, eNot, eAnd, eOr, eTup, eLst, eIxO, ePop, eIndex, eD1, eSl, oNo, oIs, aNil, aCons, aStar, tV, uNot, uAnd, uOr, uYes, dI, dIs, DV.isNon, dLen, dTuple, dNeg, dMax2, dMin2, gN, gT, gsN, ownD, putO, putFD, en0, en1, own0, List.map_cons, List.map_nil, List.replicate, List.cons.injEq, Nat.sub_self, Nat.reduceSub, Nat.reduceAdd, Bool.not_true, Bool.not_false,  List.length_cons, List.length_nil, List.getElem?_cons_zero, List.getElem?_cons_succ, List.set_cons_zero, List.set_cons_succ, List.cons_append, List.nil_append, Option.some.injEq, Sl.s.injEq, Sl.o.injEq, Sl.m.injEq, reduceCtorEq, D.int.injEq, D.bl.injEq, D.lst.injEq, D.tup.injEq, D.str.injEq, D.dic.injEq, D.obj.injEq, bne_self_eq_false, Bool.bne_true, Bool.bne_false, ite_true, ite_false, exists_eq_left', exists_eq_left, exists_eq_right, exists_eq', exists_and_left, exists_const, or_false, false_or, and_true, true_and, and_false, false_and, if_true, if_false, Bool.false_eq_true, dSlT, dAdd, c1, c2, List.length_map, ← List.map_append]
    refine ⟨sz (by rw [List.length_take, List.length_drop]; omega), ?_⟩
    rw [Int.toNat_natCast] at q
    exact q
  · have e : ((rgI lot.length).map fun x => dt (lot.take x.toNat ++ lot.drop (x.toNat + 1))) = (List.range lot.length).map fun i => dt (lot.take i ++ lot.drop (i + 1)) := by
      unfold rgI
      rw [List.map_map]; rfl
    rw [e]; exact p
theorem any_int {b : Int} : ∀ lot : List Int, ((lot.map D.int).any fun z => dqv z (.int b)) = decide (b ∈ lot)
  | [] => rfl
  | y :: l => by
    rw [List.map_cons, List.any_cons, any_int l, dqv_int]; simp [eq_comm]
theorem in_of {d : D} {lot : List Int} (hd : seqD d lot) {neg : Bool} {b : Int} {P : D → Prop} (p : P (.bl (decide (b ∈ lot) != neg))) : dIn neg (.int b) d P := by
  have e := any_int (b := b) lot
  rcases hd with rfl | rfl
  · exact ⟨⟨rfl, rfl⟩, shp_dl _, by rw [e]; exact p⟩
  · exact ⟨rfl, List.all_eq_true.mpr fun x hx => by obtain ⟨y, _, rfl⟩ := List.mem_map.mp hx; rfl, by rw [e]; exact p⟩
theorem len_least_long (K : PySem.W.Frag) : ∀ ds P R, sp_least_long K ds P R → ds.length = 1 := fun _ _ _ ⟨_, e, _⟩ => by rw [e]; rfl
def llB (L lot : List Int) : Bool := !((List.range lot.length).any fun i => decide (srt L (lot.take i ++ lot.drop (i + 1)) = "long"))
theorem pu_least_long (K : PySem.W.Frag) : ∀ ds (Po : D → D → Prop) (R : DX → D → Prop), sp_least_long K ds Po R → B_least_long K (en0 ["ring", "found", "lot", "less"] ds) { nx := fun _ => Po .non .non, rt := fun d _ => Po d .non, xe := fun y _ => R y .non } := by
  rintro ds Po R ⟨L, rfl, ok, p⟩
  simp only [B_least_long, sSeq, sIf, sFor, sSet, sSetO, sRet, sRetN, sNx, sNo, sEx, sFz, sFq, sFldS, sSub, sApp, sExt, sDput, sDupd, sAsg, sParSS, sParSO, sParOS, sParOO, eV, eO, eC, eBin, eUn, eCall, eCallO', eCallO, eMake, eMeth, eCallR, eIf, eNot, eAnd, eOr, eTup, eLst, eIxO, ePop, eIndex, eD1, eSl, oNo, oIs, aNil, aCons, aStar, tV, uNot, uAnd, uOr, uYes, dI, dIs, DV.isNon, dLen, dTuple, dNeg, dMax2, dMin2, gN, gT, gsN, ownD, putO, putFD, en0, en1, own0, List.map_cons, List.map_nil, List.replicate, List.cons.injEq, Nat.sub_self, Nat.reduceSub, Nat.reduceAdd, Bool.not_true, Bool.not_false,  List.length_cons, List.length_nil, List.getElem?_cons_zero, List.getElem?_cons_succ, List.set_cons_zero, List.set_cons_succ, List.cons_append, List.nil_append, Option.some.injEq, Sl.s.injEq, Sl.o.injEq, Sl.m.injEq, reduceCtorEq, D.int.injEq, D.bl.injEq, D.lst.injEq, D.tup.injEq, D.str.injEq, D.dic.injEq, D.obj.injEq, bne_self_eq_false, Bool.bne_true, Bool.bne_false, ite_true, ite_false, exists_eq_left', exists_eq_left, exists_eq_right, exists_eq', exists_and_left, exists_const, or_false, false_or, and_true, true_and, and_false, false_and, if_true, if_false, Bool.false_eq_true]
  refine ⟨L, "ring", rfl, by decide, ?_⟩
  unfold iLT
  simp only [sSeq, sIf, sFor, sSet, sSetO, sRet, sRetN, sNx, sNo, sEx, sFz, sFq, sFldS, sSub, sApp, sExt, sDput, sDupd, sAsg, sParSS, sParSO, sParOS, sParOO, eV, eO, eC, eBin, eUn, eCall, eCallO', eCallO, eMake, eMeth, eCallR, eIf, eNot, eAnd, eOr, eTup, eLst, eIxO, ePop, eIndex, eD1, eSl, oNo, oIs, aNil, aCons, aStar, tV, uNot, uAnd, uOr, uYes, dI, dIs, DV.isNon, dLen, dTuple, dNeg, dMax2, dMin2, gN, gT, gsN, ownD, putO, putFD, en0, en1, own0, List.map_cons, List.map_nil, List.replicate, List.cons.injEq, Nat.sub_self, Nat.reduceSub, Nat.reduceAdd, Bool.not_true, Bool.not_false,  List.length_cons, List.length_nil, List.getElem?_cons_zero, List.getElem?_cons_succ, List.set_cons_zero, List.set_cons_succ, List.cons_append, List.nil_append, Option.some.injEq, Sl.s.injEq, Sl.o.injEq, Sl.m.injEq, reduceCtorEq, D.int.injEq, D.bl.injEq, D.lst.injEq, D.tup.injEq, D.str.injEq, D.dic.injEq, D.obj.injEq, bne_self_eq_false, Bool.bne_true, Bool.bne_false, ite_true, ite_false, exists_eq_left', exists_eq_left, exists_eq_right, exists_eq', exists_and_left, exists_const, or_false, false_or, and_true, true_and, and_false, false_and, if_true, if_false, Bool.false_eq_true]
  refine ⟨L, "long", rfl, sh_long, ok, fun Ls hB => ⟨_, .inr rfl, ?_⟩⟩
  have hf := hB.few
  refine forD_ind (fun ys ρ => ∃ (done : List (List Int)) (z : Sl), Ls = done ++ ys ∧ ρ = [.s (ringD K L), .o (.lst ((done.filter (llB L)).map dt)), z, .e]) ?_ ?_ ⟨[], .e, rfl, rfl⟩
  · rintro ρ ⟨done, z, e, rfl⟩
    rw [List.append_nil] at e
    subst e
    simp only [sSeq, sIf, sFor, sSet, sSetO, sRet, sRetN, sNx, sNo, sEx, sFz, sFq, sFldS, sSub, sApp, sExt, sDput, sDupd, sAsg, sParSS, sParSO, sParOS, sParOO, eV, eO, eC, eBin, eUn, eCall, eCallO', eCallO, eMake, eMeth, eCallR, eIf, eNot, eAnd, eOr, eTup, eLst, eIxO, ePop, eIndex, eD1, eSl, oNo, oIs, aNil, aCons, aStar, tV, uNot, uAnd, uOr, uYes, dI, dIs, DV.isNon, dLen, dTuple, dNeg, dMax2, dMin2, gN, gT, gsN, ownD, putO, putFD, en0, en1, own0, List.map_cons, List.map_nil, List.replicate, List.cons.injEq, Nat.sub_self, Nat.reduceSub, Nat.reduceAdd, Bool.not_true, Bool.not_false,  List.length_cons, List.length_nil, List.getElem?_cons_zero, List.getElem?_cons_succ, List.set_cons_zero, List.set_cons_succ, List.cons_append, List.nil_append, Option.some.injEq, Sl.s.injEq, Sl.o.injEq, Sl.m.injEq, reduceCtorEq, D.int.injEq, D.bl.injEq, D.lst.injEq, D.tup.injEq, D.str.injEq, D.dic.injEq, D.obj.injEq, bne_self_eq_false, Bool.bne_true, Bool.bne_false, ite_true, ite_false, exists_eq_left', exists_eq_left, exists_eq_right, exists_eq', exists_and_left, exists_const, or_false, false_or, and_true, true_and, and_false, false_and, if_true, if_false, Bool.false_eq_true]
    refine p _ (hB.filter (fun l hl hs => ?_) fun l _ q => q.1)
    unfold llB leastLong
    rw [Bool.not_eq_true', List.any_eq_false]
    constructor
    · intro h
      exact ⟨hs, fun i hi e => h i (List.mem_range.mpr hi) (decide_eq_true e)⟩
    · rintro ⟨_, h⟩ i hi e
      exact h i (List.mem_range.mp hi) (of_decide_eq_true e)
  · rintro lot ys ρ ⟨done, z, e, rfl⟩ F hF
    have hl := ((hB.mem lot).mp (by rw [e]; simp)).1
    have h8 := lot_len ok.hi hl
    simp only [sSeq, sIf, sFor, sSet, sSetO, sRet, sRetN, sNx, sNo, sEx, sFz, sFq, sFldS, sSub, sApp, sExt, sDput, sDupd, sAsg, sParSS, sParSO, sParOS, sParOO, eV, eO, eC, eBin, eUn, eCall, eCallO', eCallO, eMake, eMeth, eCallR, eIf, eNot, eAnd, eOr, eTup, eLst, eIxO, ePop, eIndex, eD1, eSl, oNo, oIs, aNil, aCons, aStar, tV, uNot, uAnd, uOr, uYes, dI, dIs, DV.isNon, dLen, dTuple, dNeg, dMax2, dMin2, gN, gT, gsN, ownD, putO, putFD, en0, en1, own0, List.map_cons, List.map_nil, List.replicate, List.cons.injEq, Nat.sub_self, Nat.reduceSub, Nat.reduceAdd, Bool.not_true, Bool.not_false,  List.length_cons, List.length_nil, List.getElem?_cons_zero, List.getElem?_cons_succ, List.set_cons_zero, List.set_cons_succ, List.cons_append, List.nil_append, Option.some.injEq, Sl.s.injEq, Sl.o.injEq, Sl.m.injEq, reduceCtorEq, D.int.injEq, D.bl.injEq, D.lst.injEq, D.tup.injEq, D.str.injEq, D.dic.injEq, D.obj.injEq, bne_self_eq_false, Bool.bne_true, Bool.bne_false, ite_true, ite_false, exists_eq_left', exists_eq_left, exists_eq_right, exists_eq', exists_and_left, exists_const, or_false, false_or, and_true, true_and, and_false, false_and, if_true, if_false, Bool.false_eq_true]
    have hw : ∀ i < lot.length, within L.length (lot.take i ++ lot.drop (i + 1)) := fun i hi b hb => by
      rcases List.mem_append.mp hb with hb | hb
      · exact hl.2 b (List.mem_of_mem_take hb)
      · exact hl.2 b (List.mem_of_mem_drop hb)
    refine eLc_p1 (List.range lot.length) (fun i => dt (lot.take i ++ lot.drop (i + 1))) (fun i => [.s (ringD K L), .o (.lst ((done.filter (llB L)).map dt)), .s (dt lot), .s (dt (lot.take i ++ lot.drop (i + 1)))]) (fun i => D.bl (decide (srt L (lot.take i ++ lot.drop (i + 1)) = "long"))) (fun Q q => ⟨_, rfl, lot, rfl, by omega, _, .inl rfl, q⟩) (by simp [quiet]) (fun x _ Q q => q) (fun _ _ => rfl) (fun i hi Q q => ?_) (sz (by rw [List.length_range]; omega)) ?_
    · simp only [sSeq, sIf, sFor, sSet, sSetO, sRet, sRetN, sNx, sNo, sEx, sFz, sFq, sFldS, sSub, sApp, sExt, sDput, sDupd, sAsg, sParSS, sParSO, sParOS, sParOO, eV, eO, eC, eBin, eUn, eCall, eCallO', eCallO, eMake, eMeth, eCallR, eIf, eNot, eAnd, eOr, eTup, eLst, eIxO, ePop, eIndex, eD1, eSl, oNo, oIs, aNil, aCons, aStar, tV, uNot, uAnd, uOr, uYes, dI, dIs, DV.isNon, dLen, dTuple, dNeg, dMax2, dMin2, gN, gT, gsN, ownD, putO, putFD, en0, en1, own0, List.map_cons, List.map_nil, List.replicate, List.cons.injEq, Nat.sub_self, Nat.reduceSub, Nat.reduceAdd, Bool.not_true, Bool.not_false,  List.length_cons, List.length_nil, List.getElem?_cons_zero, List.getElem?_cons_succ, List.set_cons_zero, List.set_cons_succ, List.cons_append, List.nil_append, Option.some.injEq, Sl.s.injEq, Sl.o.injEq, Sl.m.injEq, reduceCtorEq, D.int.injEq, D.bl.injEq, D.lst.injEq, D.tup.injEq, D.str.injEq, D.dic.injEq, D.obj.injEq, bne_self_eq_false, Bool.bne_true, Bool.bne_false, ite_true, ite_false, exists_eq_left', exists_eq_left, exists_eq_right, exists_eq', exists_and_left, exists_const, or_false, false_or, and_true, true_and, and_false, false_and, if_true, if_false, Bool.false_eq_true]
      have hi := List.mem_range.mp hi
      refine ⟨L, _, _, rfl, .inr rfl, ok, hw i hi, by rw [List.length_append, List.length_take, List.length_drop]; omega, ?_⟩
      refine eq_ss sh_srt sh_long ?_
      rw [Bool.bne_false]; exact q
    · have e2 : ((List.range lot.length).map fun i => D.bl (decide (srt L (lot.take i ++ lot.drop (i + 1)) = "long"))) = ((List.range lot.length).map fun i => decide (srt L (lot.take i ++ lot.drop (i + 1)) = "long")).map D.bl := by rw [List.map_map]; rfl
      rw [e2, dAny_l, List.any_map]
      refine ⟨_, rfl, ?_⟩
      have e3 : (!((List.range lot.length).any (_root_.id ∘ fun i => decide (srt L (lot.take i ++ lot.drop (i + 1)) = "long")))) = llB L lot := rfl
      rw [e3]
      have e4 : Ls = (done ++ [lot]) ++ ys := by rw [e]; simp
      have hlen : (done.filter (llB L)).length < sizeLine := by
        have := List.length_filter_le (llB L) done
        have : done.length ≤ 256 := by rw [e] at hf; simp at hf; omega
        exact Nat.lt_of_lt_of_le (by omega : (done.filter (llB L)).length < 100000) (by decide)
      split
      · rename_i hc
        simp only [sSeq, sIf, sFor, sSet, sSetO, sRet, sRetN, sNx, sNo, sEx, sFz, sFq, sFldS, sSub, sApp, sExt, sDput, sDupd, sAsg, sParSS, sParSO, sParOS, sParOO, eV, eO, eC, eBin, eUn, eCall, eCallO', eCallO, eMake, eMeth, eCallR, eIf, eNot, eAnd, eOr, eTup, eLst, eIxO, ePop, eIndex, eD1, eSl, oNo, oIs, aNil, aCons, aStar, tV, uNot, uAnd, uOr, uYes, dI, dIs, DV.isNon, dLen, dTuple, dNeg, dMax2, dMin2, gN, gT, gsN, ownD, putO, putFD, en0, en1, own0, List.map_cons, List.map_nil, List.replicate, List.cons.injEq, Nat.sub_self, Nat.reduceSub, Nat.reduceAdd, Bool.not_true, Bool.not_false,  List.length_cons, List.length_nil, List.getElem?_cons_zero, List.getElem?_cons_succ, List.set_cons_zero, List.set_cons_succ, List.cons_append, List.nil_append, Option.some.injEq, Sl.s.injEq, Sl.o.injEq, Sl.m.injEq, reduceCtorEq, D.int.injEq, D.bl.injEq, D.lst.injEq, D.tup.injEq, D.str.injEq, D.dic.injEq, D.obj.injEq, bne_self_eq_false, Bool.bne_true, Bool.bne_false, ite_true, ite_false, exists_eq_left', exists_eq_left, exists_eq_right, exists_eq', exists_and_left, exists_const, or_false, false_or, and_true, true_and, and_false, false_and, if_true, if_false, Bool.false_eq_true, List.length_map]
        refine ⟨hlen, hF _ ⟨done ++ [lot], .s (dt lot), e4, ?_⟩⟩
        rw [List.filter_append, List.filter_cons_of_pos hc]; simp
      · rename_i hc
        refine hF _ ⟨done ++ [lot], .s (dt lot), e4, ?_⟩
        rw [List.filter_append, List.filter_cons_of_neg hc]; simp
theorem len_greatest_short (K : PySem.W.Frag) : ∀ ds P R, sp_greatest_short K ds P R → ds.length = 1 := fun _ _ _ ⟨_, e, _⟩ => by rw [e]; rfl
def gsB (L lot : List Int) : Bool := !(((rgI L.length).filter fun b => !decide (b ∈ lot)).any fun b => decide (srt L (lot ++ [b]) = "short"))
theorem pu_greatest_short (K : PySem.W.Frag) : ∀ ds (Po : D → D → Prop) (R : DX → D → Prop), sp_greatest_short K ds Po R → B_greatest_short K (en0 ["ring", "found", "lot", "others", "bar"] ds) { nx := fun _ => Po .non .non, rt := fun d _ => Po d .non, xe := fun y _ => R y .non } := by
  rintro ds Po R ⟨L, rfl, ok, p⟩
  simp only [B_greatest_short, sSeq, sIf, sFor, sSet, sSetO, sRet, sRetN, sNx, sNo, sEx, sFz, sFq, sFldS, sSub, sApp, sExt, sDput, sDupd, sAsg, sParSS, sParSO, sParOS, sParOO, eV, eO, eC, eBin, eUn, eCall, eCallO', eCallO, eMake, eMeth, eCallR, eIf, eNot, eAnd, eOr, eTup, eLst, eIxO, ePop, eIndex, eD1, eSl, oNo, oIs, aNil, aCons, aStar, tV, uNot, uAnd, uOr, uYes, dI, dIs, DV.isNon, dLen, dTuple, dNeg, dMax2, dMin2, gN, gT, gsN, ownD, putO, putFD, en0, en1, own0, List.map_cons, List.map_nil, List.replicate, List.cons.injEq, Nat.sub_self, Nat.reduceSub, Nat.reduceAdd, Bool.not_true, Bool.not_false,  List.length_cons, List.length_nil, List.getElem?_cons_zero, List.getElem?_cons_succ, List.set_cons_zero, List.set_cons_succ, List.cons_append, List.nil_append, Option.some.injEq, Sl.s.injEq, Sl.o.injEq, Sl.m.injEq, reduceCtorEq, D.int.injEq, D.bl.injEq, D.lst.injEq, D.tup.injEq, D.str.injEq, D.dic.injEq, D.obj.injEq, bne_self_eq_false, Bool.bne_true, Bool.bne_false, ite_true, ite_false, exists_eq_left', exists_eq_left, exists_eq_right, exists_eq', exists_and_left, exists_const, or_false, false_or, and_true, true_and, and_false, false_and, if_true, if_false, Bool.false_eq_true]
  refine ⟨L, "ring", rfl, by decide, ?_⟩
  unfold iLT
  simp only [sSeq, sIf, sFor, sSet, sSetO, sRet, sRetN, sNx, sNo, sEx, sFz, sFq, sFldS, sSub, sApp, sExt, sDput, sDupd, sAsg, sParSS, sParSO, sParOS, sParOO, eV, eO, eC, eBin, eUn, eCall, eCallO', eCallO, eMake, eMeth, eCallR, eIf, eNot, eAnd, eOr, eTup, eLst, eIxO, ePop, eIndex, eD1, eSl, oNo, oIs, aNil, aCons, aStar, tV, uNot, uAnd, uOr, uYes, dI, dIs, DV.isNon, dLen, dTuple, dNeg, dMax2, dMin2, gN, gT, gsN, ownD, putO, putFD, en0, en1, own0, List.map_cons, List.map_nil, List.replicate, List.cons.injEq, Nat.sub_self, Nat.reduceSub, Nat.reduceAdd, Bool.not_true, Bool.not_false,  List.length_cons, List.length_nil, List.getElem?_cons_zero, List.getElem?_cons_succ, List.set_cons_zero, List.set_cons_succ, List.cons_append, List.nil_append, Option.some.injEq, Sl.s.injEq, Sl.o.injEq, Sl.m.injEq, reduceCtorEq, D.int.injEq, D.bl.injEq, D.lst.injEq, D.tup.injEq, D.str.injEq, D.dic.injEq, D.obj.injEq, bne_self_eq_false, Bool.bne_true, Bool.bne_false, ite_true, ite_false, exists_eq_left', exists_eq_left, exists_eq_right, exists_eq', exists_and_left, exists_const, or_false, false_or, and_true, true_and, and_false, false_and, if_true, if_false, Bool.false_eq_true]
  refine ⟨L, "short", rfl, sh_short, ok, fun Ls hB => ⟨_, .inr rfl, ?_⟩⟩
  have hf := hB.few
  have ho8 := ok.hi
  refine forD_ind (fun ys ρ => ∃ (done : List (List Int)) (z z2 : Sl), Ls = done ++ ys ∧ ρ = [.s (ringD K L), .o (.lst ((done.filter (gsB L)).map dt)), z, z2, .e]) ?_ ?_ ⟨[], .e, .e, rfl, rfl⟩
  · rintro ρ ⟨done, z, z2, e, rfl⟩
    rw [List.append_nil] at e
    subst e
    simp only [sSeq, sIf, sFor, sSet, sSetO, sRet, sRetN, sNx, sNo, sEx, sFz, sFq, sFldS, sSub, sApp, sExt, sDput, sDupd, sAsg, sParSS, sParSO, sParOS, sParOO, eV, eO, eC, eBin, eUn, eCall, eCallO', eCallO, eMake, eMeth, eCallR, eIf, eNot, eAnd, eOr, eTup, eLst, eIxO, ePop, eIndex, eD1, eSl, oNo, oIs, aNil, aCons, aStar, tV, uNot, uAnd, uOr, uYes, dI, dIs, DV.isNon, dLen, dTuple, dNeg, dMax2, dMin2, gN, gT, gsN, ownD, putO, putFD, en0, en1, own0, List.map_cons, List.map_nil, List.replicate, List.cons.injEq, Nat.sub_self, Nat.reduceSub, Nat.reduceAdd, Bool.not_true, Bool.not_false,  List.length_cons, List.length_nil, List.getElem?_cons_zero, List.getElem?_cons_succ, List.set_cons_zero, List.set_cons_succ, List.cons_append, List.nil_append, Option.some.injEq, Sl.s.injEq, Sl.o.injEq, Sl.m.injEq, reduceCtorEq, D.int.injEq, D.bl.injEq, D.lst.injEq, D.tup.injEq, D.str.injEq, D.dic.injEq, D.obj.injEq, bne_self_eq_false, Bool.bne_true, Bool.bne_false, ite_true, ite_false, exists_eq_left', exists_eq_left, exists_eq_right, exists_eq', exists_and_left, exists_const, or_false, false_or, and_true, true_and, and_false, false_and, if_true, if_false, Bool.false_eq_true]
    refine p _ (hB.filter (fun l hl hs => ?_) fun l _ q => q.1)
    unfold gsB greatestShort
    rw [Bool.not_eq_true', List.any_eq_false]
    constructor
    · intro h
      exact ⟨hs, fun b h0 h1 hn e => h b (List.mem_filter.mpr ⟨rgI_mem.mpr ⟨h0, h1⟩, by simp [hn]⟩) (decide_eq_true e)⟩
    · rintro ⟨_, h⟩ b hb e
      obtain ⟨h1, h2⟩ := List.mem_filter.mp hb
      have h1 := rgI_mem.mp h1
      exact h b h1.1 h1.2 (by simpa using h2) (of_decide_eq_true e)
  · rintro lot ys ρ ⟨done, z, z2, e, rfl⟩ F hF
    have hl := ((hB.mem lot).mp (by rw [e]; simp)).1
    have h8 := lot_len ok.hi hl
    simp only [sSeq, sIf, sFor, sSet, sSetO, sRet, sRetN, sNx, sNo, sEx, sFz, sFq, sFldS, sSub, sApp, sExt, sDput, sDupd, sAsg, sParSS, sParSO, sParOS, sParOO, eV, eO, eC, eBin, eUn, eCall, eCallO', eCallO, eMake, eMeth, eCallR, eIf, eNot, eAnd, eOr, eTup, eLst, eIxO, ePop, eIndex, eD1, eSl, oNo, oIs, aNil, aCons, aStar, tV, uNot, uAnd, uOr, uYes, dI, dIs, DV.isNon, dLen, dTuple, dNeg, dMax2, dMin2, gN, gT, gsN, ownD, putO, putFD, en0, en1, own0, List.map_cons, List.map_nil, List.replicate, List.cons.injEq, Nat.sub_self, Nat.reduceSub, Nat.reduceAdd, Bool.not_true, Bool.not_false,  List.length_cons, List.length_nil, List.getElem?_cons_zero, List.getElem?_cons_succ, List.set_cons_zero, List.set_cons_succ, List.cons_append, List.nil_append, Option.some.injEq, Sl.s.injEq, Sl.o.injEq, Sl.m.injEq, reduceCtorEq, D.int.injEq, D.bl.injEq, D.lst.injEq, D.tup.injEq, D.str.injEq, D.dic.injEq, D.obj.injEq, bne_self_eq_false, Bool.bne_true, Bool.bne_false, ite_true, ite_false, exists_eq_left', exists_eq_left, exists_eq_right, exists_eq', exists_and_left, exists_const, or_false, false_or, and_true, true_and, and_false, false_and, if_true, if_false, Bool.false_eq_true]
    refine eLc_p (rgI L.length) D.int (fun b => [.s (ringD K L), .o (.lst ((done.filter (gsB L)).map dt)), .s (dt lot), z2, .s (.int b)]) (fun b => !decide (b ∈ lot)) D.int (fun Q q => ?_) (by simp [quiet]) (fun x _ Q q => q) (fun _ _ => rfl) (fun b hb Q q => ?_) (fun b _ _ Q q => ⟨_, rfl, q⟩) (sz (by rw [rgI_len]; omega)) ?_
    · unfold iR1
      simp only [sSeq, sIf, sFor, sSet, sSetO, sRet, sRetN, sNx, sNo, sEx, sFz, sFq, sFldS, sSub, sApp, sExt, sDput, sDupd, sAsg, sParSS, sParSO, sParOS, sParOO, eV, eO, eC, eBin, eUn, eCall, eCallO', eCallO, eMake, eMeth, eCallR, eIf, eNot, eAnd, eOr, eTup, eLst, eIxO, ePop, eIndex, eD1, eSl, oNo, oIs, aNil, aCons, aStar, tV, uNot, uAnd, uOr, uYes, dI, dIs, DV.isNon, dLen, dTuple, dNeg, dMax2, dMin2, gN, gT, gsN, ownD, putO, putFD, en0, en1, own0, List.map_cons, List.map_nil, List.replicate, List.cons.injEq, Nat.sub_self, Nat.reduceSub, Nat.reduceAdd, Bool.not_true, Bool.not_false,  List.length_cons, List.length_nil, List.getElem?_cons_zero, List.getElem?_cons_succ, List.set_cons_zero, List.set_cons_succ, List.cons_append, List.nil_append, Option.some.injEq, Sl.s.injEq, Sl.o.injEq, Sl.m.injEq, reduceCtorEq, D.int.injEq, D.bl.injEq, D.lst.injEq, D.tup.injEq, D.str.injEq, D.dic.injEq, D.obj.injEq, bne_self_eq_false, Bool.bne_true, Bool.bne_false, ite_true, ite_false, exists_eq_left', exists_eq_left, exists_eq_right, exists_eq', exists_and_left, exists_const, or_false, false_or, and_true, true_and, and_false, false_and, if_true, if_false, Bool.false_eq_true, fld_l, dLen, List.length_map]
      refine ⟨by omega, by omega, ?_⟩
      rw [Int.toNat_natCast, rgD_eq]; exact q
    · simp only [sSeq, sIf, sFor, sSet, sSetO, sRet, sRetN, sNx, sNo, sEx, sFz, sFq, sFldS, sSub, sApp, sExt, sDput, sDupd, sAsg, sParSS, sParSO, sParOS, sParOO, eV, eO, eC, eBin, eUn, eCall, eCallO', eCallO, eMake, eMeth, eCallR, eIf, eNot, eAnd, eOr, eTup, eLst, eIxO, ePop, eIndex, eD1, eSl, oNo, oIs, aNil, aCons, aStar, tV, uNot, uAnd, uOr, uYes, dI, dIs, DV.isNon, dLen, dTuple, dNeg, dMax2, dMin2, gN, gT, gsN, ownD, putO, putFD, en0, en1, own0, List.map_cons, List.map_nil, List.replicate, List.cons.injEq, Nat.sub_self, Nat.reduceSub, Nat.reduceAdd, Bool.not_true, Bool.not_false,  List.length_cons, List.length_nil, List.getElem?_cons_zero, List.getElem?_cons_succ, List.set_cons_zero, List.set_cons_succ, List.cons_append, List.nil_append, Option.some.injEq, Sl.s.injEq, Sl.o.injEq, Sl.m.injEq, reduceCtorEq, D.int.injEq, D.bl.injEq, D.lst.injEq, D.tup.injEq, D.str.injEq, D.dic.injEq, D.obj.injEq, bne_self_eq_false, Bool.bne_true, Bool.bne_false, ite_true, ite_false, exists_eq_left', exists_eq_left, exists_eq_right, exists_eq', exists_and_left, exists_const, or_false, false_or, and_true, true_and, and_false, false_and, if_true, if_false, Bool.false_eq_true]
      exact in_of (.inr rfl) ⟨_, rfl, by rw [Bool.bne_true]; exact q⟩
    · generalize ho : (rgI L.length).filter (fun b => !decide (b ∈ lot)) = os
      have hol : os.length ≤ 8 := by rw [← ho]; exact Nat.le_trans (List.length_filter_le _ _) (by rw [rgI_len]; omega)
      simp only [sSeq, sIf, sFor, sSet, sSetO, sRet, sRetN, sNx, sNo, sEx, sFz, sFq, sFldS, sSub, sApp, sExt, sDput, sDupd, sAsg, sParSS, sParSO, sParOS, sParOO, eV, eO, eC, eBin, eUn, eCall, eCallO', eCallO, eMake, eMeth, eCallR, eIf, eNot, eAnd, eOr, eTup, eLst, eIxO, ePop, eIndex, eD1, eSl, oNo, oIs, aNil, aCons, aStar, tV, uNot, uAnd, uOr, uYes, dI, dIs, DV.isNon, dLen, dTuple, dNeg, dMax2, dMin2, gN, gT, gsN, ownD, putO, putFD, en0, en1, own0, List.map_cons, List.map_nil, List.replicate, List.cons.injEq, Nat.sub_self, Nat.reduceSub, Nat.reduceAdd, Bool.not_true, Bool.not_false,  List.length_cons, List.length_nil, List.getElem?_cons_zero, List.getElem?_cons_succ, List.set_cons_zero, List.set_cons_succ, List.cons_append, List.nil_append, Option.some.injEq, Sl.s.injEq, Sl.o.injEq, Sl.m.injEq, reduceCtorEq, D.int.injEq, D.bl.injEq, D.lst.injEq, D.tup.injEq, D.str.injEq, D.dic.injEq, D.obj.injEq, bne_self_eq_false, Bool.bne_true, Bool.bne_false, ite_true, ite_false, exists_eq_left', exists_eq_left, exists_eq_right, exists_eq', exists_and_left, exists_const, or_false, false_or, and_true, true_and, and_false, false_and, if_true, if_false, Bool.false_eq_true]
      refine eLc_p1 os D.int (fun b => [.s (ringD K L), .o (.lst ((done.filter (gsB L)).map dt)), .s (dt lot), .s (dl os), .s (.int b)]) (fun b => D.bl (decide (srt L (lot ++ [b]) = "short"))) (fun Q q => ⟨_, rfl, _, .inl rfl, q⟩) (by simp [quiet]) (fun x _ Q q => q) (fun _ _ => rfl) (fun b hb Q q => ?_) (sz (by omega)) ?_
      · have hb2 : b ∈ rgI L.length := by rw [← ho] at hb; exact (List.mem_filter.mp hb).1
        have hb3 := rgI_mem.mp hb2
        simp only [sSeq, sIf, sFor, sSet, sSetO, sRet, sRetN, sNx, sNo, sEx, sFz, sFq, sFldS, sSub, sApp, sExt, sDput, sDupd, sAsg, sParSS, sParSO, sParOS, sParOO, eV, eO, eC, eBin, eUn, eCall, eCallO', eCallO, eMake, eMeth, eCallR, eIf, eNot, eAnd, eOr, eTup, eLst, eIxO, ePop, eIndex, eD1, eSl, oNo, oIs, aNil, aCons, aStar, tV, uNot, uAnd, uOr, uYes, dI, dIs, DV.isNon, dLen, dTuple, dNeg, dMax2, dMin2, gN, gT, gsN, ownD, putO, putFD, en0, en1, own0, List.map_cons, List.map_nil, List.replicate, List.cons.injEq, Nat.sub_self, Nat.reduceSub, Nat.reduceAdd, Bool.not_true, Bool.not_false,  List.length_cons, List.length_nil, List.getElem?_cons_zero, List.getElem?_cons_succ, List.set_cons_zero, List.set_cons_succ, List.cons_append, List.nil_append, Option.some.injEq, Sl.s.injEq, Sl.o.injEq, Sl.m.injEq, reduceCtorEq, D.int.injEq, D.bl.injEq, D.lst.injEq, D.tup.injEq, D.str.injEq, D.dic.injEq, D.obj.injEq, bne_self_eq_false, Bool.bne_true, Bool.bne_false, ite_true, ite_false, exists_eq_left', exists_eq_left, exists_eq_right, exists_eq', exists_and_left, exists_const, or_false, false_or, and_true, true_and, and_false, false_and, if_true, if_false, Bool.false_eq_true]
        have e2 : D.tup (lot.map D.int ++ [D.int b]) = dt (lot ++ [b]) := by simp
        rw [e2]
        refine ⟨sz (by simp; omega), L, lot ++ [b], _, rfl, .inr rfl, ok, fun c hc => ?_, by simp; omega, ?_⟩
        · rcases List.mem_append.mp hc with hc | hc
          · exact hl.2 c hc
          · rw [List.mem_singleton.mp hc]; exact hb3
        · refine eq_ss sh_srt sh_short ?_
          rw [Bool.bne_false]; exact q
      · have e2 : (os.map fun b => D.bl (decide (srt L (lot ++ [b]) = "short"))) = (os.map fun b => decide (srt L (lot ++ [b]) = "short")).map D.bl := by rw [List.map_map]; rfl
        rw [e2, dAny_l, List.any_map]
        refine ⟨_, rfl, ?_⟩
        have e3 : (!(os.any (_root_.id ∘ fun b => decide (srt L (lot ++ [b]) = "short")))) = gsB L lot := by rw [← ho]; rfl
        rw [e3]
        have e4 : Ls = (done ++ [lot]) ++ ys := by rw [e]; simp
        have hlen : (done.filter (gsB L)).length < sizeLine := by
          have := List.length_filter_le (gsB L) done
          have : done.length ≤ 256 := by rw [e] at hf; simp at hf; omega
          exact Nat.lt_of_lt_of_le (by omega : (done.filter (gsB L)).length < 100000) (by decide)
        split
        · rename_i hc
          simp only [sSeq, sIf, sFor, sSet, sSetO, sRet, sRetN, sNx, sNo, sEx, sFz, sFq, sFldS, sSub, sApp, sExt, sDput, sDupd, sAsg, sParSS, sParSO, sParOS, sParOO, eV, eO, eC, eBin, eUn, eCall, eCallO', eCallO, eMake, eMeth, eCallR, eIf, eNot, eAnd, eOr, eTup, eLst, eIxO, ePop, eIndex, eD1, eSl, oNo, oIs, aNil, aCons, aStar, tV, uNot, uAnd, uOr, uYes, dI, dIs, DV.isNon, dLen, dTuple, dNeg, dMax2, dMin2, gN, gT, gsN, ownD, putO, putFD, en0, en1, own0, List.map_cons, List.map_nil, List.replicate, List.cons.injEq, Nat.sub_self, Nat.reduceSub, Nat.reduceAdd, Bool.not_true, Bool.not_false,  List.length_cons, List.length_nil, List.getElem?_cons_zero, List.getElem?_cons_succ, List.set_cons_zero, List.set_cons_succ, List.cons_append, List.nil_append, Option.some.injEq, Sl.s.injEq, Sl.o.injEq, Sl.m.injEq, reduceCtorEq, D.int.injEq, D.bl.injEq, D.lst.injEq, D.tup.injEq, D.str.injEq, D.dic.injEq, D.obj.injEq, bne_self_eq_false, Bool.bne_true, Bool.bne_false, ite_true, ite_false, exists_eq_left', exists_eq_left, exists_eq_right, exists_eq', exists_and_left, exists_const, or_false, false_or, and_true, true_and, and_false, false_and, if_true, if_false, Bool.false_eq_true, List.length_map]
          refine ⟨hlen, hF _ ⟨done ++ [lot], .s (dt lot), .s (dl os), e4, ?_⟩⟩
          rw [List.filter_append, List.filter_cons_of_pos hc]; simp
        · rename_i hc
          refine hF _ ⟨done ++ [lot], .s (dt lot), .s (dl os), e4, ?_⟩
          rw [List.filter_append, List.filter_cons_of_neg hc]; simp
end KT

set_option Elab.async false
set_option linter.all false
set_option maxRecDepth 100000
set_option maxHeartbeats 4000000
/-! The pure part: the law's own sorts, lots anew. -/
namespace KT
open PySem L2 DV
/-! ### a list by its places -/
def enI : Nat → List Int → List (Int × Int)
  | _, [] => []
  | k, a :: L => ((k : Int), a) :: enI (k + 1) L
theorem enI_len : ∀ (L : List Int) (k : Nat), (enI k L).length = L.length
  | [], _ => rfl
  | a :: L, k => by rw [enI, List.length_cons, enI_len, List.length_cons]
def eD2 (p : Int × Int) : D := .tup [.int p.1, .int p.2]
theorem enD_map : ∀ (L : List Int) (k : Nat), enD k (L.map D.int) = (enI k L).map eD2
  | [], _ => rfl
  | a :: L, k => by
    show .tup [.int (k : Int), .int a] :: enD (k + 1) (L.map D.int) = _
    rw [enD_map]; rfl
/-- the lengths at the places that are not in the lot, added up -/
def rest (lot : List Int) : Nat → List Int → Int
  | _, [] => 0
  | k, a :: L => (if (k : Int) ∈ lot then 0 else a) + rest lot (k + 1) L
theorem rest_filter (lot : List Int) : ∀ (L : List Int) (k : Nat), (((enI k L).filter fun p => !decide (p.1 ∈ lot)).map (·.2)).sum = rest lot k L
  | [], _ => rfl
  | a :: L, k => by
    rw [enI, rest]
    by_cases h : (k : Int) ∈ lot
    · rw [List.filter_cons_of_neg (by simp [h]), if_pos h, rest_filter lot L (k + 1)]; omega
    · rw [List.filter_cons_of_pos (by simp [h]), if_neg h, List.map_cons, List.sum_cons, rest_filter lot L (k + 1)]
theorem rest_nil : ∀ (L : List Int) (k : Nat), rest [] k L = L.sum
  | [], _ => rfl
  | a :: L, k => by rw [rest, rest_nil L (k + 1), if_neg (by simp), List.sum_cons]
theorem rest_low (lot : List Int) (b : Int) : ∀ (L : List Int) (k : Nat), b < (k : Int) → rest (b :: lot) k L = rest lot k L
  | [], _, _ => rfl
  | a :: L, k, h => by
    rw [rest, rest, rest_low lot b L (k + 1) (by omega)]
    have e : ((k : Int) ∈ b :: lot) ↔ (k : Int) ∈ lot := by
      rw [List.mem_cons]
      exact ⟨fun h' => h'.elim (fun e => by omega) id, .inr⟩
    by_cases c : (k : Int) ∈ lot
    · rw [if_pos c, if_pos (e.mpr c)]
    · rw [if_neg c, if_neg (fun q => c (e.mp q))]
theorem rest_cons (lot : List Int) (b : Nat) (hb : (b : Int) ∉ lot) : ∀ (L : List Int) (k : Nat), k ≤ b → b < k + L.length → rest ((b : Int) :: lot) k L + L.getD (b - k) 0 = rest lot k L
  | [], k, h1, h2 => by simp at h2; omega
  | a :: L, k, h1, h2 => by
    rw [rest, rest]
    by_cases c : b = k
    · subst c
      rw [if_pos List.mem_cons_self, if_neg hb, rest_low lot b L (b + 1) (by omega), Nat.sub_self]
      show 0 + rest lot (b + 1) L + a = a + rest lot (b + 1) L
      omega
    · have ih := rest_cons lot b hb L (k + 1) (by omega) (by simp at h2; omega)
      have e : ((k : Int) ∈ (b : Int) :: lot) ↔ (k : Int) ∈ lot := by
        rw [List.mem_cons]
        exact ⟨fun h' => h'.elim (fun e => by omega) id, .inr⟩
      have e2 : (a :: L).getD (b - k) 0 = L.getD (b - (k + 1)) 0 := by
        have : b - k = (b - (k + 1)) + 1 := by omega
        rw [this]; rfl
      rw [e2]
      by_cases d : (k : Int) ∈ lot
      · rw [if_pos d, if_pos (e.mpr d)]; omega
      · rw [if_neg d, if_neg (fun q => d (e.mp q))]; omega
theorem rest_sum {L : List Int} : ∀ {lot : List Int}, lotOk L.length lot → lsum L lot + rest lot 0 L = L.sum
  | [], _ => by rw [rest_nil]; simp [lsum]
  | b :: lot, h => by
    obtain ⟨h1, h2⟩ := h
    obtain ⟨n1, n2⟩ := List.nodup_cons.mp h1
    have hb := h2 b List.mem_cons_self
    obtain ⟨n, rfl⟩ : ∃ n : Nat, b = n := ⟨b.toNat, by omega⟩
    have ih := rest_sum (L := L) (lot := lot) ⟨n2, fun c hc => h2 c (List.mem_cons_of_mem _ hc)⟩
    have r := rest_cons lot n n1 L 0 (Nat.zero_le _) (by omega)
    have e : lsum L ((n : Int) :: lot) = gI L (n : Int) + lsum L lot := by simp [lsum]
    have e2 : gI L (n : Int) = L.getD (n - 0) 0 := by unfold gI; rw [Int.toNat_natCast, Nat.sub_zero]
    rw [e, e2]; omega
theorem len__law_sort (K : PySem.W.Frag) : ∀ ds P R, sp__law_sort K ds P R → ds.length = 2 := fun _ _ _ ⟨_, _, _, e, _⟩ => by rw [e]; rfl
theorem pu__law_sort (K : PySem.W.Frag) : ∀ ds (Po : D → D → Prop) (R : DX → D → Prop), sp__law_sort K ds Po R → B__law_sort K (en0 ["_law_lengths_here", "_law_lot", "_law_mine", "_law_others", "_law_bar", "_law_length"] ds) { nx := fun _ => Po .non .non, rt := fun d _ => Po d .non, xe := fun y _ => R y .non } := by
  rintro ds Po R ⟨L, lot, d, rfl, hd, ok, hw, hl, p⟩
  have h8 := ok.hi
  simp only [B__law_sort, sSeq, sIf, sFor, sSet, sSetO, sRet, sRetN, sNx, sNo, sEx, sFz, sFq, sFldS, sSub, sApp, sExt, sDput, sDupd, sAsg, sParSS, sParSO, sParOS, sParOO, eV, eO, eC, eBin, eUn, eCall, eCallO', eCallO, eMake, eMeth, eCallR, eIf, eNot, eAnd, eOr, eTup, eLst, eIxO, ePop, eIndex, eD1, eSl, oNo, oIs, aNil, aCons, aStar, tV, uNot, uAnd, uOr, uYes, dI, dIs, DV.isNon, dLen, dTuple, dNeg, dMax2, dMin2, gN, gT, gsN, ownD, putO, putFD, en0, en1, own0, List.map_cons, List.map_nil, List.replicate, List.cons.injEq, Nat.sub_self, Nat.reduceSub, Nat.reduceAdd, Bool.not_true, Bool.not_false,  List.length_cons, List.length_nil, List.getElem?_cons_zero, List.getElem?_cons_succ, List.set_cons_zero, List.set_cons_succ, List.cons_append, List.nil_append, Option.some.injEq, Sl.s.injEq, Sl.o.injEq, Sl.m.injEq, reduceCtorEq, D.int.injEq, D.bl.injEq, D.lst.injEq, D.tup.injEq, D.str.injEq, D.dic.injEq, D.obj.injEq, bne_self_eq_false, Bool.bne_true, Bool.bne_false, ite_true, ite_false, exists_eq_left', exists_eq_left, exists_eq_right, exists_eq', exists_and_left, exists_const, or_false, false_or, and_true, true_and, and_false, false_and, if_true, if_false, Bool.false_eq_true]
  refine eLc_p1 lot D.int (fun x => [.s (dl L), .s d, .e, .e, .s (.int x), .e]) (D.int ∘ gI L) (fun Q q => iLT_of hd (fun Q q => ⟨_, rfl, q⟩) q) (by simp [quiet]) (fun x _ Q q => q) (fun _ _ => rfl) (fun x hx Q q => ?_) (sz (by omega)) ?_
  · simp only [sSeq, sIf, sFor, sSet, sSetO, sRet, sRetN, sNx, sNo, sEx, sFz, sFq, sFldS, sSub, sApp, sExt, sDput, sDupd, sAsg, sParSS, sParSO, sParOS, sParOO, eV, eO, eC, eBin, eUn, eCall, eCallO', eCallO, eMake, eMeth, eCallR, eIf, eNot, eAnd, eOr, eTup, eLst, eIxO, ePop, eIndex, eD1, eSl, oNo, oIs, aNil, aCons, aStar, tV, uNot, uAnd, uOr, uYes, dI, dIs, DV.isNon, dLen, dTuple, dNeg, dMax2, dMin2, gN, gT, gsN, ownD, putO, putFD, en0, en1, own0, List.map_cons, List.map_nil, List.replicate, List.cons.injEq, Nat.sub_self, Nat.reduceSub, Nat.reduceAdd, Bool.not_true, Bool.not_false,  List.length_cons, List.length_nil, List.getElem?_cons_zero, List.getElem?_cons_succ, List.set_cons_zero, List.set_cons_succ, List.cons_append, List.nil_append, Option.some.injEq, Sl.s.injEq, Sl.o.injEq, Sl.m.injEq, reduceCtorEq, D.int.injEq, D.bl.injEq, D.lst.injEq, D.tup.injEq, D.str.injEq, D.dic.injEq, D.obj.injEq, bne_self_eq_false, Bool.bne_true, Bool.bne_false, ite_true, ite_false, exists_eq_left', exists_eq_left, exists_eq_right, exists_eq', exists_and_left, exists_const, or_false, false_or, and_true, true_and, and_false, false_and, if_true, if_false, Bool.false_eq_true]
    exact ix_l (hw.2 x hx).1 (hw.2 x hx).2 q
  · rw [← List.map_map, dSum_l]
    simp only [sSeq, sIf, sFor, sSet, sSetO, sRet, sRetN, sNx, sNo, sEx, sFz, sFq, sFldS, sSub, sApp, sExt, sDput, sDupd, sAsg, sParSS, sParSO, sParOS, sParOO, eV, eO, eC, eBin, eUn, eCall, eCallO', eCallO, eMake, eMeth, eCallR, eIf, eNot, eAnd, eOr, eTup, eLst, eIxO, ePop, eIndex, eD1, eSl, oNo, oIs, aNil, aCons, aStar, tV, uNot, uAnd, uOr, uYes, dI, dIs, DV.isNon, dLen, dTuple, dNeg, dMax2, dMin2, gN, gT, gsN, ownD, putO, putFD, en0, en1, own0, List.map_cons, List.map_nil, List.replicate, List.cons.injEq, Nat.sub_self, Nat.reduceSub, Nat.reduceAdd, Bool.not_true, Bool.not_false,  List.length_cons, List.length_nil, List.getElem?_cons_zero, List.getElem?_cons_succ, List.set_cons_zero, List.set_cons_succ, List.cons_append, List.nil_append, Option.some.injEq, Sl.s.injEq, Sl.o.injEq, Sl.m.injEq, reduceCtorEq, D.int.injEq, D.bl.injEq, D.lst.injEq, D.tup.injEq, D.str.injEq, D.dic.injEq, D.obj.injEq, bne_self_eq_false, Bool.bne_true, Bool.bne_false, ite_true, ite_false, exists_eq_left', exists_eq_left, exists_eq_right, exists_eq', exists_and_left, exists_const, or_false, false_or, and_true, true_and, and_false, false_and, if_true, if_false, Bool.false_eq_true]
    refine eLc_p (enI 0 L) eD2 (fun q => [.s (dl L), .s d, .s (.int (lot.map (gI L)).sum), .e, .s (.int q.1), .s (.int q.2)]) (fun q => !decide (q.1 ∈ lot)) (fun q => D.int q.2) (fun Q q => ?_) (by simp [quiet]) (fun x _ Q q => ⟨_, rfl, rfl, q⟩) (fun _ _ => rfl) (fun x hx Q q => ?_) (fun x _ _ Q q => ⟨_, rfl, q⟩) (sz (by rw [enI_len]; omega)) ?_
    · unfold iE
      simp only [sSeq, sIf, sFor, sSet, sSetO, sRet, sRetN, sNx, sNo, sEx, sFz, sFq, sFldS, sSub, sApp, sExt, sDput, sDupd, sAsg, sParSS, sParSO, sParOS, sParOO, eV, eO, eC, eBin, eUn, eCall, eCallO', eCallO, eMake, eMeth, eCallR, eIf, eNot, eAnd, eOr, eTup, eLst, eIxO, ePop, eIndex, eD1, eSl, oNo, oIs, aNil, aCons, aStar, tV, uNot, uAnd, uOr, uYes, dI, dIs, DV.isNon, dLen, dTuple, dNeg, dMax2, dMin2, gN, gT, gsN, ownD, putO, putFD, en0, en1, own0, List.map_cons, List.map_nil, List.replicate, List.cons.injEq, Nat.sub_self, Nat.reduceSub, Nat.reduceAdd, Bool.not_true, Bool.not_false,  List.length_cons, List.length_nil, List.getElem?_cons_zero, List.getElem?_cons_succ, List.set_cons_zero, List.set_cons_succ, List.cons_append, List.nil_append, Option.some.injEq, Sl.s.injEq, Sl.o.injEq, Sl.m.injEq, reduceCtorEq, D.int.injEq, D.bl.injEq, D.lst.injEq, D.tup.injEq, D.str.injEq, D.dic.injEq, D.obj.injEq, bne_self_eq_false, Bool.bne_true, Bool.bne_false, ite_true, ite_false, exists_eq_left', exists_eq_left, exists_eq_right, exists_eq', exists_and_left, exists_const, or_false, false_or, and_true, true_and, and_false, false_and, if_true, if_false, Bool.false_eq_true, enD_map]; exact q
    · simp only [sSeq, sIf, sFor, sSet, sSetO, sRet, sRetN, sNx, sNo, sEx, sFz, sFq, sFldS, sSub, sApp, sExt, sDput, sDupd, sAsg, sParSS, sParSO, sParOS, sParOO, eV, eO, eC, eBin, eUn, eCall, eCallO', eCallO, eMake, eMeth, eCallR, eIf, eNot, eAnd, eOr, eTup, eLst, eIxO, ePop, eIndex, eD1, eSl, oNo, oIs, aNil, aCons, aStar, tV, uNot, uAnd, uOr, uYes, dI, dIs, DV.isNon, dLen, dTuple, dNeg, dMax2, dMin2, gN, gT, gsN, ownD, putO, putFD, en0, en1, own0, List.map_cons, List.map_nil, List.replicate, List.cons.injEq, Nat.sub_self, Nat.reduceSub, Nat.reduceAdd, Bool.not_true, Bool.not_false,  List.length_cons, List.length_nil, List.getElem?_cons_zero, List.getElem?_cons_succ, List.set_cons_zero, List.set_cons_succ, List.cons_append, List.nil_append, Option.some.injEq, Sl.s.injEq, Sl.o.injEq, Sl.m.injEq, reduceCtorEq, D.int.injEq, D.bl.injEq, D.lst.injEq, D.tup.injEq, D.str.injEq, D.dic.injEq, D.obj.injEq, bne_self_eq_false, Bool.bne_true, Bool.bne_false, ite_true, ite_false, exists_eq_left', exists_eq_left, exists_eq_right, exists_eq', exists_and_left, exists_const, or_false, false_or, and_true, true_and, and_false, false_and, if_true, if_false, Bool.false_eq_true]
      exact in_of hd ⟨_, rfl, by rw [Bool.bne_true]; exact q⟩
    · have e : ((enI 0 L).filter fun p => !decide (p.1 ∈ lot)).map (fun q => D.int q.2) = (((enI 0 L).filter fun p => !decide (p.1 ∈ lot)).map (·.2)).map D.int := by rw [List.map_map]; rfl
      rw [e, dSum_l, rest_filter]
      simp only [sSeq, sIf, sFor, sSet, sSetO, sRet, sRetN, sNx, sNo, sEx, sFz, sFq, sFldS, sSub, sApp, sExt, sDput, sDupd, sAsg, sParSS, sParSO, sParOS, sParOO, eV, eO, eC, eBin, eUn, eCall, eCallO', eCallO, eMake, eMeth, eCallR, eIf, eNot, eAnd, eOr, eTup, eLst, eIxO, ePop, eIndex, eD1, eSl, oNo, oIs, aNil, aCons, aStar, tV, uNot, uAnd, uOr, uYes, dI, dIs, DV.isNon, dLen, dTuple, dNeg, dMax2, dMin2, gN, gT, gsN, ownD, putO, putFD, en0, en1, own0, List.map_cons, List.map_nil, List.replicate, List.cons.injEq, Nat.sub_self, Nat.reduceSub, Nat.reduceAdd, Bool.not_true, Bool.not_false,  List.length_cons, List.length_nil, List.getElem?_cons_zero, List.getElem?_cons_succ, List.set_cons_zero, List.set_cons_succ, List.cons_append, List.nil_append, Option.some.injEq, Sl.s.injEq, Sl.o.injEq, Sl.m.injEq, reduceCtorEq, D.int.injEq, D.bl.injEq, D.lst.injEq, D.tup.injEq, D.str.injEq, D.dic.injEq, D.obj.injEq, bne_self_eq_false, Bool.bne_true, Bool.bne_false, ite_true, ite_false, exists_eq_left', exists_eq_left, exists_eq_right, exists_eq', exists_and_left, exists_const, or_false, false_or, and_true, true_and, and_false, false_and, if_true, if_false, Bool.false_eq_true, eq_ii]
      have hs : (lot.map (gI L)).sum = lsum L lot := rfl
      rw [hs]
      have hr := rest_sum (L := L) hw
      unfold srt at p
      by_cases h1 : lsum L lot = rest lot 0 L
      · rw [if_pos (by omega)] at p
        simpa [h1] using p
      · rw [if_neg (by omega)] at p
        by_cases h2 : lsum L lot < rest lot 0 L
        · rw [if_pos (by omega)] at p
          simpa [h1, h2] using p
        · rw [if_neg (by omega)] at p
          simpa [h1, h2] using p
/-! ### places in an order -/
def inv (o : List Int) (b : Int) : Int := (o.idxOf b : Nat)
theorem idx_le {b : Int} : ∀ (o : List Int) (m : Nat) (h : m < o.length), o[m] = b → o.idxOf b ≤ m
  | a :: o, 0, _, e => by
    have e : a = b := e
    rw [List.idxOf_cons, e]; simp
  | a :: o, m + 1, h, e => by
    have h' : m < o.length := by simpa using h
    have := idx_le o m h' e
    rw [List.idxOf_cons]
    cases (a == b) with
    | true => exact Nat.zero_le _
    | false => exact Nat.succ_le_succ this
theorem idx_of {o : List Int} {b : Int} (h : b ∈ o) {P : D → Prop} (p : P (.int (inv o b))) : dIndex (dl o) (.int b) P := by
  have hl := List.idxOf_lt_length_of_mem h
  refine ⟨_, o.idxOf b, .int b, rfl, rfl, List.all_eq_true.mpr fun x hx => by obtain ⟨y, _, rfl⟩ := List.mem_map.mp hx; rfl, ?_, by rw [dqv_int]; simp, fun m z hm hz => ?_, p⟩
  · rw [List.getElem?_map, List.getElem?_eq_getElem hl, List.getElem_idxOf]; rfl
  · rw [List.getElem?_map] at hz
    cases e : o[m]? with
    | none => rw [e] at hz; cases hz
    | some y =>
      rw [e] at hz
      have hz : D.int y = z := Option.some.inj hz
      rw [← hz, dqv_int]
      refine decide_eq_false fun e2 => ?_
      rw [e2] at e
      have hm2 : m < o.length := by omega
      have e3 : o[m] = b := by rw [List.getElem?_eq_getElem hm2] at e; exact Option.some.inj e
      have : o.idxOf b ≤ m := by
        exact idx_le o m hm2 e3
      omega
/-! ### ascending -/
def srtd (l : List Int) : List Int := l.mergeSort fun a b => decide (a ≤ b)
theorem srtd_perm (l : List Int) : (srtd l).Perm l := List.mergeSort_perm l _
theorem srtd_asc (l : List Int) : (srtd l).Pairwise (· ≤ ·) := by
  have h := List.pairwise_mergeSort (le := fun a b : Int => decide (a ≤ b)) (fun a b c h1 h2 => by simp at *; omega) (fun a b => by simp; omega) l
  exact h.imp fun q => by simpa using q
theorem srtd_eq {l m : List Int} (h : m.Perm l) (a : m.Pairwise (· ≤ ·)) : m = srtd l := perm_sorted_eq (h.trans (srtd_perm l).symm) a (srtd_asc l)
theorem asc_strict : ∀ {l : List Int}, l.Pairwise (· ≤ ·) → l.Nodup → l.Pairwise (· < ·) := fun {l} h n => (List.Pairwise.and h n).imp fun ⟨a, b⟩ => by omega
theorem asc_weak {l : List Int} (h : l.Pairwise (· < ·)) : l.Pairwise (· ≤ ·) := h.imp fun q => by omega
theorem asc_nodup {l : List Int} (h : l.Pairwise (· < ·)) : l.Nodup := h.imp fun {a b} q e => by omega
theorem nodup_at {l : List Int} (hn : l.Nodup) {i j : Nat} (hi : i < l.length) (hj : j < l.length) (e : l[i] = l[j]) : i = j := by
  have h := List.pairwise_iff_getElem.mp hn
  rcases Nat.lt_trichotomy i j with c | c | c
  · exact absurd e (h i j hi hj c)
  · exact c
  · exact absurd e.symm (h j i hj hi c)
section
variable {n : Nat} {o : List Int} (ho : o.Perm (rgI n))
theorem rgI_nodup {n : Nat} : (rgI n).Nodup := by
  unfold rgI List.Nodup
  rw [List.pairwise_map]
  exact List.nodup_range.imp fun h e => h (by omega)
include ho
theorem o_mem {b : Int} (h0 : 0 ≤ b) (h1 : b < (n : Int)) : b ∈ o := ho.mem_iff.mpr (rgI_mem.mpr ⟨h0, h1⟩)
theorem o_len : o.length = n := by rw [ho.length_eq, rgI_len]
theorem inv_rng {b : Int} (h0 : 0 ≤ b) (h1 : b < (n : Int)) : 0 ≤ inv o b ∧ inv o b < (n : Int) := by
  have := List.idxOf_lt_length_of_mem (o_mem ho h0 h1)
  rw [o_len ho] at this
  unfold inv; omega
theorem o_inv {b : Int} (h0 : 0 ≤ b) (h1 : b < (n : Int)) : gI o (inv o b) = b := by
  have hl := List.idxOf_lt_length_of_mem (o_mem ho h0 h1)
  unfold gI inv
  rw [Int.toNat_natCast, List.getD_eq_getElem?_getD, List.getElem?_eq_getElem hl, List.getElem_idxOf]; rfl
theorem o_rng {i : Int} (h0 : 0 ≤ i) (h1 : i < (n : Int)) : 0 ≤ gI o i ∧ gI o i < (n : Int) := by
  have := gI_mem (L := o) h0 (by rw [o_len ho]; exact h1)
  exact rgI_mem.mp (ho.mem_iff.mp this)
theorem inv_o {i : Int} (h0 : 0 ≤ i) (h1 : i < (n : Int)) : inv o (gI o i) = i := by
  have hr := o_rng ho h0 h1
  have hn : o.Nodup := ho.nodup_iff.mpr rgI_nodup
  obtain ⟨k, rfl⟩ : ∃ k : Nat, i = k := ⟨i.toNat, by omega⟩
  have hk : k < o.length := by rw [o_len ho]; omega
  have e : gI o (k : Int) = o[k] := by
    unfold gI
    rw [Int.toNat_natCast, List.getD_eq_getElem?_getD, List.getElem?_eq_getElem hk]; rfl
  have hm : gI o (k : Int) ∈ o := o_mem ho hr.1 hr.2
  have hl := List.idxOf_lt_length_of_mem hm
  unfold inv
  have e2 : o[o.idxOf (gI o (k : Int))] = o[k] := by rw [List.getElem_idxOf, e]
  have := nodup_at hn hl hk e2
  omega
theorem map_inv {lot : List Int} (hl : within n lot) : (lot.map (inv o)).map (gI o) = lot := by
  rw [List.map_map]
  refine Eq.trans (List.map_congr_left fun b hb => ?_) (List.map_id lot)
  exact o_inv ho (hl b hb).1 (hl b hb).2
theorem map_ord {lot : List Int} (hl : within n lot) : (lot.map (gI o)).map (inv o) = lot := by
  rw [List.map_map]
  refine Eq.trans (List.map_congr_left fun b hb => ?_) (List.map_id lot)
  exact inv_o ho (hl b hb).1 (hl b hb).2
theorem inv_lot {lot : List Int} (h : Lot n lot) : Lot n (srtd (lot.map (inv o))) := by
  have hn : (lot.map (inv o)).Nodup := by
    unfold List.Nodup
    rw [List.pairwise_map]
    refine (asc_nodup h.1).imp_of_mem fun {a b} ha hb hne e => hne ?_
    rw [← o_inv ho (h.2 a ha).1 (h.2 a ha).2, ← o_inv ho (h.2 b hb).1 (h.2 b hb).2, e]
  refine ⟨asc_strict (srtd_asc _) ((srtd_perm _).nodup_iff.mpr hn), fun b hb => ?_⟩
  obtain ⟨c, hc, rfl⟩ := List.mem_map.mp ((srtd_perm _).mem_iff.mp hb)
  exact inv_rng ho (h.2 c hc).1 (h.2 c hc).2
theorem anew_mem {Ms : List (List Int)} (hM : ∀ lot ∈ Ms, Lot n lot) {lot' : List Int} : lot' ∈ Ms.map (fun lot => srtd (lot.map (inv o))) ↔ Lot n lot' ∧ ∃ lot ∈ Ms, lot.Perm (lot'.map (gI o)) := by
  rw [List.mem_map]
  constructor
  · rintro ⟨lot, hm, rfl⟩
    have hl := hM lot hm
    refine ⟨inv_lot ho hl, lot, hm, ?_⟩
    have := ((srtd_perm (lot.map (inv o))).map (gI o))
    rw [map_inv ho hl.2] at this
    exact this.symm
  · rintro ⟨h, lot, hm, hp⟩
    refine ⟨lot, hm, ?_⟩
    have hp2 := hp.map (inv o)
    rw [map_ord ho h.2] at hp2
    exact (srtd_eq hp2.symm (asc_weak h.1)).symm
theorem anew_nodup {Ms : List (List Int)} (hM : ∀ lot ∈ Ms, Lot n lot) (hn : Ms.Nodup) : (Ms.map fun lot => srtd (lot.map (inv o))).Nodup := by
  unfold List.Nodup
  rw [List.pairwise_map]
  refine List.Pairwise.imp_of_mem (fun {a b} ha hb hne e => hne ?_) hn
  have pa := (srtd_perm (a.map (inv o))).map (gI o)
  have pb := (srtd_perm (b.map (inv o))).map (gI o)
  rw [map_inv ho (hM a ha).2] at pa
  rw [map_inv ho (hM b hb).2] at pb
  rw [e] at pa
  exact perm_sorted_eq (pa.symm.trans pb) (asc_weak (hM a ha).1) (asc_weak (hM b hb).1)
end
theorem len__law_lots_anew (K : PySem.W.Frag) : ∀ ds P R, sp__law_lots_anew K ds P R → ds.length = 2 := fun _ _ _ ⟨_, _, _, e, _⟩ => by rw [e]; rfl
theorem pu__law_lots_anew (K : PySem.W.Frag) : ∀ ds (Po : D → D → Prop) (R : DX → D → Prop), sp__law_lots_anew K ds Po R → B__law_lots_anew K (en0 ["_law_lots_here", "_law_order", "_law_found", "_law_lot", "_law_bar", "_law_size"] ds) { nx := fun _ => Po .non .non, rt := fun d _ => Po d .non, xe := fun y _ => R y .non } := by
  rintro ds Po R ⟨n, Ms, o, rfl, hn, ho, hM, hMn, hfew, p⟩
  simp only [B__law_lots_anew, sSeq, sIf, sFor, sSet, sSetO, sRet, sRetN, sNx, sNo, sEx, sFz, sFq, sFldS, sSub, sApp, sExt, sDput, sDupd, sAsg, sParSS, sParSO, sParOS, sParOO, eV, eO, eC, eBin, eUn, eCall, eCallO', eCallO, eMake, eMeth, eCallR, eIf, eNot, eAnd, eOr, eTup, eLst, eIxO, ePop, eIndex, eD1, eSl, oNo, oIs, aNil, aCons, aStar, tV, uNot, uAnd, uOr, uYes, dI, dIs, DV.isNon, dLen, dTuple, dNeg, dMax2, dMin2, gN, gT, gsN, ownD, putO, putFD, en0, en1, own0, List.map_cons, List.map_nil, List.replicate, List.cons.injEq, Nat.sub_self, Nat.reduceSub, Nat.reduceAdd, Bool.not_true, Bool.not_false,  List.length_cons, List.length_nil, List.getElem?_cons_zero, List.getElem?_cons_succ, List.set_cons_zero, List.set_cons_succ, List.cons_append, List.nil_append, Option.some.injEq, Sl.s.injEq, Sl.o.injEq, Sl.m.injEq, reduceCtorEq, D.int.injEq, D.bl.injEq, D.lst.injEq, D.tup.injEq, D.str.injEq, D.dic.injEq, D.obj.injEq, bne_self_eq_false, Bool.bne_true, Bool.bne_false, ite_true, ite_false, exists_eq_left', exists_eq_left, exists_eq_right, exists_eq', exists_and_left, exists_const, or_false, false_or, and_true, true_and, and_false, false_and, if_true, if_false, Bool.false_eq_true]
  refine eLc_p1 Ms dt (fun l => [.s (.tup (Ms.map dt)), .s (dl o), .e, .s (dt l), .e, .e]) (fun l => dt (srtd (l.map (inv o)))) (fun Q q => ⟨_, rfl, _, .inr rfl, q⟩) (by simp [quiet]) (fun x _ Q q => q) (fun _ _ => rfl) (fun l hl Q q => ?_) (sz (by omega)) ?_
  · have hL := hM l hl
    have h8 := lot_len hn hL
    simp only [sSeq, sIf, sFor, sSet, sSetO, sRet, sRetN, sNx, sNo, sEx, sFz, sFq, sFldS, sSub, sApp, sExt, sDput, sDupd, sAsg, sParSS, sParSO, sParOS, sParOO, eV, eO, eC, eBin, eUn, eCall, eCallO', eCallO, eMake, eMeth, eCallR, eIf, eNot, eAnd, eOr, eTup, eLst, eIxO, ePop, eIndex, eD1, eSl, oNo, oIs, aNil, aCons, aStar, tV, uNot, uAnd, uOr, uYes, dI, dIs, DV.isNon, dLen, dTuple, dNeg, dMax2, dMin2, gN, gT, gsN, ownD, putO, putFD, en0, en1, own0, List.map_cons, List.map_nil, List.replicate, List.cons.injEq, Nat.sub_self, Nat.reduceSub, Nat.reduceAdd, Bool.not_true, Bool.not_false,  List.length_cons, List.length_nil, List.getElem?_cons_zero, List.getElem?_cons_succ, List.set_cons_zero, List.set_cons_succ, List.cons_append, List.nil_append, Option.some.injEq, Sl.s.injEq, Sl.o.injEq, Sl.m.injEq, reduceCtorEq, D.int.injEq, D.bl.injEq, D.lst.injEq, D.tup.injEq, D.str.injEq, D.dic.injEq, D.obj.injEq, bne_self_eq_false, Bool.bne_true, Bool.bne_false, ite_true, ite_false, exists_eq_left', exists_eq_left, exists_eq_right, exists_eq', exists_and_left, exists_const, or_false, false_or, and_true, true_and, and_false, false_and, if_true, if_false, Bool.false_eq_true]
    refine eLc_p1 l D.int (fun b => [.s (.tup (Ms.map dt)), .s (dl o), .e, .s (dt l), .s (.int b), .e]) (fun b => D.int (inv o b)) (fun Q q => ⟨_, rfl, _, .inr rfl, q⟩) (by simp [quiet]) (fun x _ Q q => q) (fun _ _ => rfl) (fun b hb Q q => ?_) (sz (by omega)) ?_
    · simp only [sSeq, sIf, sFor, sSet, sSetO, sRet, sRetN, sNx, sNo, sEx, sFz, sFq, sFldS, sSub, sApp, sExt, sDput, sDupd, sAsg, sParSS, sParSO, sParOS, sParOO, eV, eO, eC, eBin, eUn, eCall, eCallO', eCallO, eMake, eMeth, eCallR, eIf, eNot, eAnd, eOr, eTup, eLst, eIxO, ePop, eIndex, eD1, eSl, oNo, oIs, aNil, aCons, aStar, tV, uNot, uAnd, uOr, uYes, dI, dIs, DV.isNon, dLen, dTuple, dNeg, dMax2, dMin2, gN, gT, gsN, ownD, putO, putFD, en0, en1, own0, List.map_cons, List.map_nil, List.replicate, List.cons.injEq, Nat.sub_self, Nat.reduceSub, Nat.reduceAdd, Bool.not_true, Bool.not_false,  List.length_cons, List.length_nil, List.getElem?_cons_zero, List.getElem?_cons_succ, List.set_cons_zero, List.set_cons_succ, List.cons_append, List.nil_append, Option.some.injEq, Sl.s.injEq, Sl.o.injEq, Sl.m.injEq, reduceCtorEq, D.int.injEq, D.bl.injEq, D.lst.injEq, D.tup.injEq, D.str.injEq, D.dic.injEq, D.obj.injEq, bne_self_eq_false, Bool.bne_true, Bool.bne_false, ite_true, ite_false, exists_eq_left', exists_eq_left, exists_eq_right, exists_eq', exists_and_left, exists_const, or_false, false_or, and_true, true_and, and_false, false_and, if_true, if_false, Bool.false_eq_true]
      exact idx_of (o_mem ho (hL.2 b hb).1 (hL.2 b hb).2) q
    · have e : (l.map fun b => D.int (inv o b)) = (l.map (inv o)).map D.int := by rw [List.map_map]; rfl
      rw [e]
      refine ⟨_, rfl, fun ns' h1 h2 => ?_⟩
      rw [srtd_eq h1 h2]; exact q
  · generalize hF : Ms.map (fun lot => srtd (lot.map (inv o))) = Fs
    have e : (Ms.map fun l => dt (srtd (l.map (inv o)))) = Fs.map dt := by rw [← hF, List.map_map]; rfl
    have hFn : Fs.Nodup := by rw [← hF]; exact anew_nodup ho hM hMn
    have hFl : Fs.length ≤ 256 := by rw [← hF, List.length_map]; exact hfew
    have hFm : ∀ lot', lot' ∈ Fs ↔ Lot n lot' ∧ ∃ lot ∈ Ms, lot.Perm (lot'.map (gI o)) := fun lot' => by rw [← hF]; exact anew_mem ho hM
    rw [e]
    simp only [sSeq, sIf, sFor, sSet, sSetO, sRet, sRetN, sNx, sNo, sEx, sFz, sFq, sFldS, sSub, sApp, sExt, sDput, sDupd, sAsg, sParSS, sParSO, sParOS, sParOO, eV, eO, eC, eBin, eUn, eCall, eCallO', eCallO, eMake, eMeth, eCallR, eIf, eNot, eAnd, eOr, eTup, eLst, eIxO, ePop, eIndex, eD1, eSl, oNo, oIs, aNil, aCons, aStar, tV, uNot, uAnd, uOr, uYes, dI, dIs, DV.isNon, dLen, dTuple, dNeg, dMax2, dMin2, gN, gT, gsN, ownD, putO, putFD, en0, en1, own0, List.map_cons, List.map_nil, List.replicate, List.cons.injEq, Nat.sub_self, Nat.reduceSub, Nat.reduceAdd, Bool.not_true, Bool.not_false,  List.length_cons, List.length_nil, List.getElem?_cons_zero, List.getElem?_cons_succ, List.set_cons_zero, List.set_cons_succ, List.cons_append, List.nil_append, Option.some.injEq, Sl.s.injEq, Sl.o.injEq, Sl.m.injEq, reduceCtorEq, D.int.injEq, D.bl.injEq, D.lst.injEq, D.tup.injEq, D.str.injEq, D.dic.injEq, D.obj.injEq, bne_self_eq_false, Bool.bne_true, Bool.bne_false, ite_true, ite_false, exists_eq_left', exists_eq_left, exists_eq_right, exists_eq', exists_and_left, exists_const, or_false, false_or, and_true, true_and, and_false, false_and, if_true, if_false, Bool.false_eq_true]
    unfold eLc iLT
    simp only [sSeq, sIf, sFor, sSet, sSetO, sRet, sRetN, sNx, sNo, sEx, sFz, sFq, sFldS, sSub, sApp, sExt, sDput, sDupd, sAsg, sParSS, sParSO, sParOS, sParOO, eV, eO, eC, eBin, eUn, eCall, eCallO', eCallO, eMake, eMeth, eCallR, eIf, eNot, eAnd, eOr, eTup, eLst, eIxO, ePop, eIndex, eD1, eSl, oNo, oIs, aNil, aCons, aStar, tV, uNot, uAnd, uOr, uYes, dI, dIs, DV.isNon, dLen, dTuple, dNeg, dMax2, dMin2, gN, gT, gsN, ownD, putO, putFD, en0, en1, own0, List.map_cons, List.map_nil, List.replicate, List.cons.injEq, Nat.sub_self, Nat.reduceSub, Nat.reduceAdd, Bool.not_true, Bool.not_false,  List.length_cons, List.length_nil, List.getElem?_cons_zero, List.getElem?_cons_succ, List.set_cons_zero, List.set_cons_succ, List.cons_append, List.nil_append, Option.some.injEq, Sl.s.injEq, Sl.o.injEq, Sl.m.injEq, reduceCtorEq, D.int.injEq, D.bl.injEq, D.lst.injEq, D.tup.injEq, D.str.injEq, D.dic.injEq, D.obj.injEq, bne_self_eq_false, Bool.bne_true, Bool.bne_false, ite_true, ite_false, exists_eq_left', exists_eq_left, exists_eq_right, exists_eq', exists_and_left, exists_const, or_false, false_or, and_true, true_and, and_false, false_and, if_true, if_false, Bool.false_eq_true]
    refine lcQ_p1 (P := fun d ρ => dSortP d fun z => ∃ ds, (z = .lst ds ∨ z = .tup ds) ∧ quiet ρ [5, 3] ∧ lcD [5, 3] (gT [5, 3]) uYes (eV 3) ds [] (blank ρ [5, 3]) (fun acc ρ2 => Po (.tup acc) .non) noR) Fs dt (fun l => [.s (.tup (Ms.map dt)), .s (dl o), .s (.lst (Fs.map dt)), .s (dt l), .e, .e]) (fun l => D.tup [.int l.length, dt l]) (by simp [quiet]) (fun x _ Q q => q) (fun _ _ => rfl) (fun l hl Q q => ?_) (sz (by omega)) ?_
    · simp only [sSeq, sIf, sFor, sSet, sSetO, sRet, sRetN, sNx, sNo, sEx, sFz, sFq, sFldS, sSub, sApp, sExt, sDput, sDupd, sAsg, sParSS, sParSO, sParOS, sParOO, eV, eO, eC, eBin, eUn, eCall, eCallO', eCallO, eMake, eMeth, eCallR, eIf, eNot, eAnd, eOr, eTup, eLst, eIxO, ePop, eIndex, eD1, eSl, oNo, oIs, aNil, aCons, aStar, tV, uNot, uAnd, uOr, uYes, dI, dIs, DV.isNon, dLen, dTuple, dNeg, dMax2, dMin2, gN, gT, gsN, ownD, putO, putFD, en0, en1, own0, List.map_cons, List.map_nil, List.replicate, List.cons.injEq, Nat.sub_self, Nat.reduceSub, Nat.reduceAdd, Bool.not_true, Bool.not_false,  List.length_cons, List.length_nil, List.getElem?_cons_zero, List.getElem?_cons_succ, List.set_cons_zero, List.set_cons_succ, List.cons_append, List.nil_append, Option.some.injEq, Sl.s.injEq, Sl.o.injEq, Sl.m.injEq, reduceCtorEq, D.int.injEq, D.bl.injEq, D.lst.injEq, D.tup.injEq, D.str.injEq, D.dic.injEq, D.obj.injEq, bne_self_eq_false, Bool.bne_true, Bool.bne_false, ite_true, ite_false, exists_eq_left', exists_eq_left, exists_eq_right, exists_eq', exists_and_left, exists_const, or_false, false_or, and_true, true_and, and_false, false_and, if_true, if_false, Bool.false_eq_true, List.length_map]
      exact ⟨by decide, q⟩
    · rw [pD_list]
      refine ⟨_, rfl, fun ps' hs hp => ⟨_, .inl rfl, ?_⟩⟩
      obtain ⟨h1, h2⟩ := sorted_lots hFn hs hp
      have hlen : ps'.length ≤ 256 := by rw [hp.length_eq, List.length_map]; exact hFl
      refine lcQ_p1 (P := fun d ρ => Po (match d with | .lst l => .tup l | d => d) .non) ps' pD (fun p => [.s (.tup (Ms.map dt)), .s (dl o), .s (.lst (Fs.map dt)), .s (dt p.2), .e, .s (.int p.1)]) (fun p => dt p.2) (by simp [quiet]) (fun x _ Q q => ?_) (fun _ _ => rfl) (fun x _ Q q => ⟨_, rfl, q⟩) (sz (by omega)) ?_
      · exact ⟨_, rfl, rfl, q⟩
      · have := p _ h1 fun lot' => by rw [h2.mem_iff]; exact hFm lot'
        rw [List.map_map] at this
        exact this
end KT

set_option Elab.async false
set_option linter.all false
set_option maxRecDepth 100000
set_option maxHeartbeats 4000000
/-! Plain law: lengths in another order, put together, in two. -/
namespace KT
open PySem L2 DV
/-! ### sums of some of them -/
def Sub2 (A B : List Int) : Prop := ∀ x, x ∈ A → x ∈ B
def stp (acc : List Int) (a : Int) : List Int := acc ++ acc.map fun x => x + a
theorem stp_mem {acc : List Int} {a x : Int} : x ∈ stp acc a ↔ x ∈ acc ∨ ∃ y ∈ acc, y + a = x := by
  unfold stp
  rw [List.mem_append, List.mem_map]
theorem stp_mono {A B : List Int} {a : Int} (h : Sub2 A B) : Sub2 (stp A a) (stp B a) := fun x hx => by
  rcases stp_mem.mp hx with hx | ⟨y, hy, e⟩
  · exact stp_mem.mpr (.inl (h x hx))
  · exact stp_mem.mpr (.inr ⟨y, h y hy, e⟩)
theorem fold_mono {L : List Int} : ∀ {A B : List Int}, Sub2 A B → Sub2 (L.foldl stp A) (L.foldl stp B) := by
  induction L with
  | nil => exact fun h => h
  | cons a L ih => exact fun h => ih (stp_mono h)
theorem stp_swap {A : List Int} {a b : Int} : Sub2 (stp (stp A a) b) (stp (stp A b) a) := fun x hx => by
  rcases stp_mem.mp hx with hx | ⟨y, hy, e⟩
  · rcases stp_mem.mp hx with hx | ⟨y, hy, e⟩
    · exact stp_mem.mpr (.inl (stp_mem.mpr (.inl hx)))
    · exact stp_mem.mpr (.inr ⟨y, stp_mem.mpr (.inl hy), e⟩)
  · rcases stp_mem.mp hy with hy | ⟨z, hz, e2⟩
    · exact stp_mem.mpr (.inl (stp_mem.mpr (.inr ⟨y, hy, e⟩)))
    · exact stp_mem.mpr (.inr ⟨z + b, stp_mem.mpr (.inr ⟨z, hz, rfl⟩), by omega⟩)
theorem fold_perm {L M : List Int} (h : L.Perm M) : ∀ A : List Int, Sub2 (L.foldl stp A) (M.foldl stp A) := by
  induction h with
  | nil => exact fun A x hx => hx
  | cons a _ ih => exact fun A => ih (stp A a)
  | swap a b l => exact fun A => fold_mono stp_swap
  | trans _ _ ih1 ih2 => exact fun A x hx => ih2 A x (ih1 A x hx)
theorem sums_eq (L : List Int) : sums L = L.foldl stp [0] := rfl
theorem sums_perm {L M : List Int} (h : L.Perm M) {x : Int} : x ∈ sums L ↔ x ∈ sums M := by
  rw [sums_eq, sums_eq]
  exact ⟨fold_perm h _ x, fold_perm h.symm _ x⟩
theorem sums_two {a b : Int} {rest : List Int} {x : Int} (h : x ∈ sums ((a + b) :: rest)) : x ∈ sums (a :: b :: rest) := by
  rw [sums_eq] at h ⊢
  refine fold_mono (L := rest) (A := stp [0] (a + b)) (B := stp (stp [0] a) b) (fun y hy => ?_) x h
  simp [stp] at hy ⊢
  omega
theorem sum_perm {L M : List Int} (h : L.Perm M) : L.sum = M.sum := by
  induction h with
  | nil => rfl
  | cons a _ ih => rw [List.sum_cons, List.sum_cons, ih]
  | swap a b l => simp only [List.sum_cons]; omega
  | trans _ _ ih1 ih2 => exact ih1.trans ih2
theorem clear_perm {L M : List Int} (h : L.Perm M) : clearB L = clearB M := by
  unfold clearB
  rw [sum_perm h]
  congr 2
  by_cases c : M.sum / 2 ∈ sums M
  · rw [decide_eq_true c, decide_eq_true ((sums_perm h).mpr c)]
  · rw [decide_eq_false c, decide_eq_false (fun q => c ((sums_perm h).mp q))]
theorem mx_perm {L M : List Int} (h : L.Perm M) (hp : ∀ x ∈ L, 1 ≤ x) (hn : L ≠ []) : mx L = mx M := by
  refine mx_uniq (fun x hx => hp x (h.mem_iff.mpr hx)) (h.mem_iff.mp (mx_mem hp hn)) fun y hy => mx_le (h.mem_iff.mpr hy)
theorem closes_perm {L M : List Int} (h : L.Perm M) (hp : ∀ x ∈ L, 1 ≤ x) (hn : L ≠ []) : closesB L = closesB M := by
  unfold closesB
  rw [sum_perm h, mx_perm h hp hn]
theorem okL.ne {L : List Int} (ok : okL L) : L ≠ [] := fun e => by have := ok.lo; rw [e] at this; simp at this
theorem okL.perm {L M : List Int} (ok : okL L) (h : L.Perm M) : okL M := ⟨by rw [← h.length_eq]; exact ok.lo, by rw [← h.length_eq]; exact ok.hi, fun x hx => ok.b x (h.mem_iff.mpr hx)⟩
theorem map_rg {L : List Int} : (rgI L.length).map (gI L) = L := by
  refine List.ext_getElem? fun i => ?_
  unfold rgI
  rw [List.getElem?_map, List.getElem?_map]
  by_cases c : i < L.length
  · rw [List.getElem?_range c, List.getElem?_eq_getElem c]
    show some (gI L (i : Int)) = some L[i]
    unfold gI
    rw [Int.toNat_natCast, List.getD_eq_getElem?_getD, List.getElem?_eq_getElem c]; rfl
  · rw [List.getElem?_eq_none (by simpa using c), List.getElem?_eq_none (by omega)]; rfl
theorem order_perm {L o : List Int} (ho : o.Perm (rgI L.length)) : (o.map (gI L)).Perm L := by
  have := ho.map (gI L)
  rw [map_rg] at this; exact this
/-! ### lots in another order -/
section
variable {L o : List Int} (ho : o.Perm (rgI L.length))
include ho
theorem g_order {b : Int} (h0 : 0 ≤ b) (h1 : b < (L.length : Int)) : gI (o.map (gI L)) b = gI L (gI o b) := by
  obtain ⟨k, rfl⟩ : ∃ k : Nat, b = k := ⟨b.toNat, by omega⟩
  have hk : k < o.length := by rw [o_len ho]; omega
  unfold gI
  rw [Int.toNat_natCast, List.getD_eq_getElem?_getD, List.getElem?_map, List.getElem?_eq_getElem hk, List.getD_eq_getElem?_getD (l := o), List.getElem?_eq_getElem hk]
  rfl
theorem vals_order {lot lot' : List Int} (hl' : within L.length lot') (hp : lot.Perm (lot'.map (gI o))) : (lot'.map (gI (o.map (gI L)))).Perm (lot.map (gI L)) := by
  have e : lot'.map (gI (o.map (gI L))) = (lot'.map (gI o)).map (gI L) := by
    rw [List.map_map]
    exact List.map_congr_left fun b hb => g_order ho (hl' b hb).1 (hl' b hb).2
  rw [e]
  exact (hp.map (gI L)).symm
theorem lsum_order {lot lot' : List Int} (hl' : within L.length lot') (hp : lot.Perm (lot'.map (gI o))) : lsum (o.map (gI L)) lot' = lsum L lot := sum_perm (vals_order ho hl' hp)
theorem srt_order {lot lot' : List Int} (hl' : within L.length lot') (hp : lot.Perm (lot'.map (gI o))) : srt (o.map (gI L)) lot' = srt L lot := by
  unfold srt
  rw [lsum_order ho hl' hp, sum_perm (order_perm ho)]
end
theorem srt_long {L lot : List Int} : srt L lot = "long" ↔ L.sum < 2 * lsum L lot := by
  unfold srt
  split
  · constructor
    · intro h; exact absurd h (by decide +kernel)
    · omega
  · split
    · constructor
      · intro h; exact absurd h (by decide +kernel)
      · omega
    · exact ⟨fun _ => by omega, fun _ => rfl⟩
theorem srt_short {L lot : List Int} : srt L lot = "short" ↔ 2 * lsum L lot < L.sum := by
  unfold srt
  split
  · constructor
    · intro h; exact absurd h (by decide +kernel)
    · omega
  · split
    · exact ⟨fun _ => by omega, fun _ => rfl⟩
    · constructor
      · intro h; exact absurd h (by decide +kernel)
      · omega
theorem lsum_cut {L : List Int} : ∀ {lot : List Int} {i : Nat} (h : i < lot.length), lsum L (lot.take i ++ lot.drop (i + 1)) + gI L lot[i] = lsum L lot
  | a :: lot, 0, _ => by simp [lsum]; omega
  | a :: lot, i + 1, h => by
    have ih := lsum_cut (L := L) (lot := lot) (i := i) (by simpa using h)
    have e : lsum L ((a :: lot).take (i + 1) ++ (a :: lot).drop (i + 1 + 1)) = gI L a + lsum L (lot.take i ++ lot.drop (i + 1)) := by simp [lsum]
    have e2 : lsum L (a :: lot) = gI L a + lsum L lot := by simp [lsum]
    have e3 : (a :: lot)[i + 1] = lot[i]'(by simpa using h) := rfl
    rw [e, e2, e3]; omega
theorem least_vals {L lot : List Int} : leastLong L lot ↔ L.sum < 2 * (lot.map (gI L)).sum ∧ ∀ v ∈ lot.map (gI L), ¬ L.sum < 2 * ((lot.map (gI L)).sum - v) := by
  unfold leastLong
  rw [srt_long]
  refine and_congr Iff.rfl ⟨fun h v hv => ?_, fun h i hi => ?_⟩
  · obtain ⟨b, hb, rfl⟩ := List.mem_map.mp hv
    obtain ⟨i, hi, e⟩ := List.mem_iff_getElem.mp hb
    have h1 := h i hi
    rw [Ne, srt_long] at h1
    have h2 := lsum_cut (L := L) hi
    rw [e] at h2
    have : lsum L lot = (lot.map (gI L)).sum := rfl
    omega
  · rw [Ne, srt_long]
    have h1 := h (gI L lot[i]) (List.mem_map.mpr ⟨_, List.getElem_mem hi, rfl⟩)
    have h2 := lsum_cut (L := L) hi
    have : lsum L lot = (lot.map (gI L)).sum := rfl
    omega
theorem least_order {L o : List Int} (ho : o.Perm (rgI L.length)) {lot lot' : List Int} (hl' : within L.length lot') (hp : lot.Perm (lot'.map (gI o))) : leastLong (o.map (gI L)) lot' ↔ leastLong L lot := by
  rw [least_vals, least_vals, sum_perm (order_perm ho)]
  have hv := vals_order ho hl' hp
  rw [sum_perm hv]
  exact and_congr Iff.rfl ⟨fun h v hm => h v (hv.mem_iff.mpr hm), fun h v hm => h v (hv.mem_iff.mp hm)⟩
theorem lsum_snoc {L lot : List Int} {b : Int} : lsum L (lot ++ [b]) = lsum L lot + gI L b := by simp [lsum]
theorem great_order {L o : List Int} (ho : o.Perm (rgI L.length)) {lot lot' : List Int} (hl' : within L.length lot') (hp : lot.Perm (lot'.map (gI o))) : greatestShort (o.map (gI L)) lot' ↔ greatestShort L lot := by
  unfold greatestShort
  have hs := sum_perm (order_perm ho)
  have hls := lsum_order ho hl' hp
  have hlen : (o.map (gI L)).length = L.length := by rw [List.length_map, o_len ho]
  refine and_congr (by rw [srt_order ho hl' hp]) ⟨fun h b h0 h1 hn => ?_, fun h b h0 h1 hn => ?_⟩
  · have hr := inv_rng ho h0 h1
    have ob := o_inv ho h0 h1
    have := h (inv o b) hr.1 (by rw [hlen]; exact hr.2) fun hm => hn (hp.mem_iff.mpr (by rw [← ob]; exact List.mem_map_of_mem hm))
    rw [Ne, srt_short, lsum_snoc] at this ⊢
    rw [hs, hls, g_order ho hr.1 hr.2, ob] at this
    exact this
  · rw [hlen] at h1
    have hr := o_rng ho h0 h1
    have := h (gI o b) hr.1 hr.2 fun hm => hn ?_
    · rw [Ne, srt_short, lsum_snoc] at this ⊢
      rw [hs, hls, g_order ho h0 h1]
      exact this
    · obtain ⟨c, hc, e⟩ := List.mem_map.mp (hp.mem_iff.mp hm)
      have e1 := inv_o ho (hl' c hc).1 (hl' c hc).2
      have e2 := inv_o ho h0 h1
      rw [e, e2] at e1
      rw [e1]; exact hc
/-- a book of the ring in another order is the book, numbered anew -/
theorem book_order {L o : List Int} (ho : o.Perm (rgI L.length)) {p : List Int → List Int → Prop} (hp : ∀ lot lot', within L.length lot' → lot.Perm (lot'.map (gI o)) → (p (o.map (gI L)) lot' ↔ p L lot)) {A B C : List (List Int)} (hA : Book L.length (p L) A) (hB : Book L.length (p (o.map (gI L))) B)
    (hC : C.Pairwise lotlt) (hm : ∀ lot', lot' ∈ C ↔ Lot L.length lot' ∧ ∃ lot ∈ A, lot.Perm (lot'.map (gI o))) : B = C := by
  refine asc_uniq hB.asc hC fun lot' => ?_
  rw [hB.mem, hm]
  refine and_congr_right fun hl' => ?_
  constructor
  · intro h
    have hn : (lot'.map (gI o)).Nodup := by
      unfold List.Nodup
      rw [List.pairwise_map]
      refine (asc_nodup hl'.1).imp_of_mem fun {a b} ha hb hne e => hne ?_
      rw [← inv_o ho (hl'.2 a ha).1 (hl'.2 a ha).2, ← inv_o ho (hl'.2 b hb).1 (hl'.2 b hb).2, e]
    have hq : Lot L.length (srtd (lot'.map (gI o))) := ⟨asc_strict (srtd_asc _) ((srtd_perm _).nodup_iff.mpr hn), fun b hb => by
      obtain ⟨c, hc, rfl⟩ := List.mem_map.mp ((srtd_perm _).mem_iff.mp hb)
      exact o_rng ho (hl'.2 c hc).1 (hl'.2 c hc).2⟩
    exact ⟨_, (hA.mem _).mpr ⟨hq, (hp _ lot' hl'.2 (srtd_perm _)).mp h⟩, srtd_perm _⟩
  · rintro ⟨lot, hm, hpp⟩
    exact (hp lot lot' hl'.2 hpp).mpr ((hA.mem lot).mp hm).2
end KT

set_option Elab.async false
set_option linter.all false
set_option maxRecDepth 100000
set_option maxHeartbeats 4000000
/-! The pure part: numbered anew. -/
namespace KT
open PySem L2 DV
theorem gI_nat {L : List Int} {i : Nat} (h : i < L.length) : gI L (i : Int) = L[i] := by
  unfold gI
  rw [Int.toNat_natCast, List.getD_eq_getElem?_getD, List.getElem?_eq_getElem h]; rfl
theorem gI_rg {n : Nat} {b : Int} (h0 : 0 ≤ b) (h1 : b < (n : Int)) : gI (rgI n) b = b := by
  obtain ⟨k, rfl⟩ : ∃ k : Nat, b = k := ⟨b.toNat, by omega⟩
  rw [gI_nat (by rw [rgI_len]; omega)]
  unfold rgI
  rw [List.getElem_map, List.getElem_range]
def turnO (n : Nat) (b : Int) : List Int := (rgI n).map fun x => (b + x) % (n : Int)
def backO (n : Nat) : List Int := (rgI n).map fun x => ((n : Int) - x) % (n : Int)
theorem turn_at {L : List Int} {b : Nat} (hb : b < L.length) : (turnO L.length (b : Int)).map (gI L) = L.drop b ++ L.take b := by
  refine List.ext_getElem? fun i => ?_
  unfold turnO rgI
  rw [List.map_map, List.map_map, List.getElem?_map]
  by_cases c : i < L.length
  · rw [List.getElem?_range c]
    show some (gI L (((b : Int) + (i : Int)) % (L.length : Int))) = _
    by_cases d : b + i < L.length
    · have e : ((b : Int) + (i : Int)) % (L.length : Int) = ((b + i : Nat) : Int) := by
        rw [Int.emod_eq_of_lt (by omega) (by omega)]; omega
      rw [e, gI_nat d, List.getElem?_append_left (by rw [List.length_drop]; omega), List.getElem?_drop, List.getElem?_eq_getElem d]
    · have e : ((b : Int) + (i : Int)) % (L.length : Int) = ((b + i - L.length : Nat) : Int) := by
        have : ((b : Int) + (i : Int)) = ((b + i - L.length : Nat) : Int) + (L.length : Int) * 1 := by omega
        rw [this, Int.add_mul_emod_self_left, Int.emod_eq_of_lt (by omega) (by omega)]
      have hlt : b + i - L.length < L.length := by omega
      have hlt2 : b + i - L.length < b := by omega
      rw [e, gI_nat hlt, List.getElem?_append_right (by rw [List.length_drop]; omega), List.length_drop]
      have e2 : i - (L.length - b) = b + i - L.length := by omega
      rw [e2, List.getElem?_take, if_pos hlt2, List.getElem?_eq_getElem hlt]
  · rw [List.getElem?_eq_none (by simpa using c), List.getElem?_eq_none (by rw [List.length_append, List.length_drop, List.length_take]; omega)]; rfl
theorem map_self {n : Nat} {l : List Int} (h : within n l) : l.map (gI (rgI n)) = l :=
  Eq.trans (List.map_congr_left fun b hb => gI_rg (h b hb).1 (h b hb).2) (List.map_id l)
theorem turn_perm {n b : Nat} (hb : b < n) : (turnO n (b : Int)).Perm (rgI n) := by
  have h := turn_at (L := rgI n) (b := b) (by rw [rgI_len]; exact hb)
  rw [rgI_len, map_self] at h
  · rw [h]
    exact List.perm_append_comm.trans (by rw [List.take_append_drop])
  · intro c hc
    obtain ⟨x, hx, rfl⟩ := List.mem_map.mp hc
    exact ⟨Int.emod_nonneg _ (by omega), Int.emod_lt_of_pos _ (by omega)⟩
theorem back_at {L : List Int} (hn : 0 < L.length) : (backO L.length).map (gI L) = L.take 1 ++ (L.drop 1).reverse := by
  refine List.ext_getElem? fun i => ?_
  unfold backO rgI
  rw [List.map_map, List.map_map, List.getElem?_map]
  by_cases c : i < L.length
  · rw [List.getElem?_range c]
    show some (gI L (((L.length : Int) - (i : Int)) % (L.length : Int))) = _
    by_cases d : i = 0
    · subst d
      have e : ((L.length : Int) - ((0 : Nat) : Int)) % (L.length : Int) = ((0 : Nat) : Int) := by
        have : ((L.length : Int) - ((0 : Nat) : Int)) = (L.length : Int) := by omega
        rw [this, Int.emod_self]; rfl
      rw [e, gI_nat hn, List.getElem?_append_left (by rw [List.length_take]; omega), List.getElem?_take, if_pos (by omega), List.getElem?_eq_getElem hn]
    · have e : ((L.length : Int) - (i : Int)) % (L.length : Int) = ((L.length - i : Nat) : Int) := by
        rw [Int.emod_eq_of_lt (by omega) (by omega)]; omega
      have hlt : L.length - i < L.length := by omega
      rw [e, gI_nat hlt, List.getElem?_append_right (by rw [List.length_take]; omega), List.length_take, List.getElem?_reverse (by rw [List.length_drop]; omega), List.length_drop, List.getElem?_drop]
      have e2 : 1 + (L.length - 1 - 1 - (i - min 1 L.length)) = L.length - i := by omega
      rw [e2, List.getElem?_eq_getElem hlt]
  · rw [List.getElem?_eq_none (by simpa using c), List.getElem?_eq_none (by rw [List.length_append, List.length_reverse, List.length_drop, List.length_take]; omega)]; rfl
theorem back_perm {n : Nat} (hn : 0 < n) : (backO n).Perm (rgI n) := by
  have h := back_at (L := rgI n) (by rw [rgI_len]; exact hn)
  rw [rgI_len, map_self] at h
  · rw [h]
    have := (List.reverse_perm ((rgI n).drop 1)).append_left ((rgI n).take 1)
    rw [List.take_append_drop] at this
    exact this
  · intro c hc
    obtain ⟨x, hx, rfl⟩ := List.mem_map.mp hc
    exact ⟨Int.emod_nonneg _ (by omega), Int.emod_lt_of_pos _ (by omega)⟩
theorem iR1_of {A : DE} {ρ : En} {R : XP} {P : List D → En → Prop} {n : Nat} (hn : n ≤ 1000) (hA : ∀ Q : D → En → Prop, Q (.int (n : Int)) ρ → A ρ Q R) (p : P ((rgI n).map D.int) ρ) : iR1 A ρ P R := by
  refine hA _ ⟨(n : Int), rfl, by omega, by omega, ?_⟩
  rw [Int.toNat_natCast, rgD_eq]; exact p
/-- the four questions: where they stand, which lots they tell -/
def askT (K : PySem.W.Frag) : List (Addr × (List Int → List Int → Prop)) := [(He.ga K "short_lots", fun L lot => srt L lot = "short"), (He.ga K "level_lots", fun L lot => srt L lot = "level"), (He.ga K "least_long", leastLong), (He.ga K "greatest_short", greatestShort)]
theorem ask_in {K : PySem.W.Frag} {t : Addr × (List Int → List Int → Prop)} (h : t ∈ askT K) : (t.1, spBook K t.2) ∈ [(He.ga K "short_lots", sp_short_lots K), (He.ga K "level_lots", sp_level_lots K), (He.ga K "least_long", sp_least_long K), (He.ga K "greatest_short", sp_greatest_short K)] := by
  unfold askT at h
  rcases List.mem_cons.mp h with rfl | h
  · exact .head _
  rcases List.mem_cons.mp h with rfl | h
  · exact .tail _ (.head _)
  rcases List.mem_cons.mp h with rfl | h
  · exact .tail _ (.tail _ (.head _))
  rcases List.mem_cons.mp h with rfl | h
  · exact .tail _ (.tail _ (.tail _ (.head _)))
  · cases h
theorem ask_order {K : PySem.W.Frag} {t : Addr × (List Int → List Int → Prop)} (h : t ∈ askT K) {L o : List Int} (ho : o.Perm (rgI L.length)) {lot lot' : List Int} (hl' : within L.length lot') (hp : lot.Perm (lot'.map (gI o))) : t.2 (o.map (gI L)) lot' ↔ t.2 L lot := by
  unfold askT at h
  rcases List.mem_cons.mp h with rfl | h
  · show srt _ _ = _ ↔ srt _ _ = _
    rw [srt_order ho hl' hp]
  rcases List.mem_cons.mp h with rfl | h
  · show srt _ _ = _ ↔ srt _ _ = _
    rw [srt_order ho hl' hp]
  rcases List.mem_cons.mp h with rfl | h
  · exact least_order ho hl' hp
  rcases List.mem_cons.mp h with rfl | h
  · exact great_order ho hl' hp
  · cases h
theorem eq_three {a b : Bool} {c : Int} {P : D → Prop} (p : P (.bl false)) : dEq true (.tup [.bl a, .bl b, .int c]) (.tup [.bl a, .bl b, .int c]) P := by
  have h : dqv (.tup [.bl a, .bl b, .int c]) (.tup [.bl a, .bl b, .int c]) = true := by
    show (PyData.eqv (.bool a) (.bool a) && (PyData.eqv (.bool b) (.bool b) && (PyData.eqv (.int c) (.int c) && true))) = true
    simp [PyData.eqv]
  refine ⟨⟨rfl, rfl⟩, ⟨rfl, rfl⟩, ?_⟩
  rw [h]; exact p
theorem book_nodup {n : Nat} {p : List Int → Prop} {A : List (List Int)} (hA : Book n p A) : A.Nodup := by
  unfold List.Nodup
  refine hA.asc.imp fun {a b} h e => ?_
  rw [e] at h
  exact lotlt_irrefl h
theorem meth_no {K : PySem.W.Frag} {L : List Int} {m : Str} (h : ([("lengths", dt L), ("total", D.int L.sum), ("closes", D.bl (closesB L)), ("is_clear", D.bl (clearB L))] : List (Str × D)).lookup m = none) {P : Prop} (p : P) : (∃ fs, ringD K L = .obj (He.ga K "Ring") fs ∧ fs.lookup m = none) ∧ P := ⟨⟨_, rfl, h⟩, p⟩
theorem len__law_anew_right (K : PySem.W.Frag) : ∀ ds P R, sp__law_anew_right K ds P R → ds.length = 2 := fun _ _ _ ⟨_, _, _, e, _⟩ => by rw [e]; rfl
theorem pu__law_anew_right (K : PySem.W.Frag) : ∀ d0 ds (Po : D → D → Prop) (R : DX → D → Prop), sp__law_anew_right K (d0 :: ds) Po R → B__law_anew_right K (en1 ["_law_pen_here", "_law_lengths_here", "_law_ring", "_law_many", "_law_bar", "_law_rows", "_law_order", "_law_new", "_law_places", "_law_ask", "_law_at"] d0 ds) { nx := fun ρ => ∃ d1, own0 ρ d1 ∧ Po .non d1, rt := fun d ρ => ∃ d1, own0 ρ d1 ∧ Po d d1, xe := fun y ρ => ∃ d1, own0 ρ d1 ∧ R y d1 } := by
  rintro d0 ds Po R ⟨k, d0', L, e, hp, hk, ok, p⟩
  cases e
  have h8 := ok.hi
  have h3 := ok.lo
  simp only [B__law_anew_right, sSeq, sIf, sFor, sSet, sSetO, sRet, sRetN, sNx, sNo, sEx, sFz, sFq, sFldS, sSub, sApp, sExt, sDput, sDupd, sAsg, sParSS, sParSO, sParOS, sParOO, eV, eO, eC, eBin, eUn, eCall, eCallO', eCallO, eMake, eMeth, eCallR, eIf, eNot, eAnd, eOr, eTup, eLst, eIxO, ePop, eIndex, eD1, eSl, oNo, oIs, aNil, aCons, aStar, tV, uNot, uAnd, uOr, uYes, dI, dIs, DV.isNon, dLen, dTuple, dNeg, dMax2, dMin2, gN, gT, gsN, ownD, putO, putFD, en0, en1, own0, List.map_cons, List.map_nil, List.replicate, List.cons.injEq, Nat.sub_self, Nat.reduceSub, Nat.reduceAdd, Bool.not_true, Bool.not_false,  List.length_cons, List.length_nil, List.getElem?_cons_zero, List.getElem?_cons_succ, List.set_cons_zero, List.set_cons_succ, List.cons_append, List.nil_append, Option.some.injEq, Sl.s.injEq, Sl.o.injEq, Sl.m.injEq, reduceCtorEq, D.int.injEq, D.bl.injEq, D.lst.injEq, D.tup.injEq, D.str.injEq, D.dic.injEq, D.obj.injEq, bne_self_eq_false, Bool.bne_true, Bool.bne_false, ite_true, ite_false, exists_eq_left', exists_eq_left, exists_eq_right, exists_eq', exists_and_left, exists_const, or_false, false_or, and_true, true_and, and_false, false_and, if_true, if_false, Bool.false_eq_true, List.length_map]
  refine make_ring (.inl rfl) ok ?_
  refine ⟨by decide, k, d0, L.length, rfl, hp, by omega, by omega, by omega, fun v d1 h0 h1 hp1 => ?_⟩
  obtain ⟨b, rfl⟩ : ∃ b : Nat, v = b := ⟨v.toNat, by omega⟩
  have hb : b < L.length := by omega
  refine ⟨⟨_, rfl, rfl⟩, L, b, rfl, ok, hb, ?_⟩
  refine eLc_p1 (rgI L.length) D.int (fun x => [.m d1, .s (dl L), .s (ringD K L), .s (.int L.length), .s (.int (b : Int)), .e, .e, .e, .e, .e, .s (.int x)]) (fun x => D.int (((b : Int) + x) % (L.length : Int))) (fun Q q => iR1_of (by omega) (fun Q q => ⟨_, rfl, q⟩) q) (by simp [quiet]) (fun x _ Q q => q) (fun _ _ => rfl) (fun x hx Q q => ?_) (sz (by rw [rgI_len]; omega)) ?_
  · simp only [sSeq, sIf, sFor, sSet, sSetO, sRet, sRetN, sNx, sNo, sEx, sFz, sFq, sFldS, sSub, sApp, sExt, sDput, sDupd, sAsg, sParSS, sParSO, sParOS, sParOO, eV, eO, eC, eBin, eUn, eCall, eCallO', eCallO, eMake, eMeth, eCallR, eIf, eNot, eAnd, eOr, eTup, eLst, eIxO, ePop, eIndex, eD1, eSl, oNo, oIs, aNil, aCons, aStar, tV, uNot, uAnd, uOr, uYes, dI, dIs, DV.isNon, dLen, dTuple, dNeg, dMax2, dMin2, gN, gT, gsN, ownD, putO, putFD, en0, en1, own0, List.map_cons, List.map_nil, List.replicate, List.cons.injEq, Nat.sub_self, Nat.reduceSub, Nat.reduceAdd, Bool.not_true, Bool.not_false,  List.length_cons, List.length_nil, List.getElem?_cons_zero, List.getElem?_cons_succ, List.set_cons_zero, List.set_cons_succ, List.cons_append, List.nil_append, Option.some.injEq, Sl.s.injEq, Sl.o.injEq, Sl.m.injEq, reduceCtorEq, D.int.injEq, D.bl.injEq, D.lst.injEq, D.tup.injEq, D.str.injEq, D.dic.injEq, D.obj.injEq, bne_self_eq_false, Bool.bne_true, Bool.bne_false, ite_true, ite_false, exists_eq_left', exists_eq_left, exists_eq_right, exists_eq', exists_and_left, exists_const, or_false, false_or, and_true, true_and, and_false, false_and, if_true, if_false, Bool.false_eq_true, dInt_i, dAdd]
    exact ⟨by omega, q⟩
  have e1 : D.lst ((rgI L.length).map fun x => D.int (((b : Int) + x) % (L.length : Int))) = dl (turnO L.length (b : Int)) := by unfold turnO; rw [dl, List.map_map]; rfl
  rw [e1]
  simp only [sSeq, sIf, sFor, sSet, sSetO, sRet, sRetN, sNx, sNo, sEx, sFz, sFq, sFldS, sSub, sApp, sExt, sDput, sDupd, sAsg, sParSS, sParSO, sParOS, sParOO, eV, eO, eC, eBin, eUn, eCall, eCallO', eCallO, eMake, eMeth, eCallR, eIf, eNot, eAnd, eOr, eTup, eLst, eIxO, ePop, eIndex, eD1, eSl, oNo, oIs, aNil, aCons, aStar, tV, uNot, uAnd, uOr, uYes, dI, dIs, DV.isNon, dLen, dTuple, dNeg, dMax2, dMin2, gN, gT, gsN, ownD, putO, putFD, en0, en1, own0, List.map_cons, List.map_nil, List.replicate, List.cons.injEq, Nat.sub_self, Nat.reduceSub, Nat.reduceAdd, Bool.not_true, Bool.not_false,  List.length_cons, List.length_nil, List.getElem?_cons_zero, List.getElem?_cons_succ, List.set_cons_zero, List.set_cons_succ, List.cons_append, List.nil_append, Option.some.injEq, Sl.s.injEq, Sl.o.injEq, Sl.m.injEq, reduceCtorEq, D.int.injEq, D.bl.injEq, D.lst.injEq, D.tup.injEq, D.str.injEq, D.dic.injEq, D.obj.injEq, bne_self_eq_false, Bool.bne_true, Bool.bne_false, ite_true, ite_false, exists_eq_left', exists_eq_left, exists_eq_right, exists_eq', exists_and_left, exists_const, or_false, false_or, and_true, true_and, and_false, false_and, if_true, if_false, Bool.false_eq_true]
  refine ⟨by decide, by decide, ⟨_, rfl, rfl⟩, L, rfl, ok, ?_⟩
  refine eLc_p1 (rgI L.length) D.int (fun x => [.m d1, .s (dl L), .s (ringD K L), .s (.int L.length), .s (.int (b : Int)), .o (.lst [.tup [ringD K (L.drop b ++ L.take b), dl (turnO L.length (b : Int))]]), .e, .e, .e, .e, .s (.int x)]) (fun x => D.int (((L.length : Int) - x) % (L.length : Int))) (fun Q q => iR1_of (by omega) (fun Q q => ⟨_, rfl, q⟩) q) (by simp [quiet]) (fun x _ Q q => q) (fun _ _ => rfl) (fun x hx Q q => ?_) (sz (by rw [rgI_len]; omega)) ?_
  · simp only [sSeq, sIf, sFor, sSet, sSetO, sRet, sRetN, sNx, sNo, sEx, sFz, sFq, sFldS, sSub, sApp, sExt, sDput, sDupd, sAsg, sParSS, sParSO, sParOS, sParOO, eV, eO, eC, eBin, eUn, eCall, eCallO', eCallO, eMake, eMeth, eCallR, eIf, eNot, eAnd, eOr, eTup, eLst, eIxO, ePop, eIndex, eD1, eSl, oNo, oIs, aNil, aCons, aStar, tV, uNot, uAnd, uOr, uYes, dI, dIs, DV.isNon, dLen, dTuple, dNeg, dMax2, dMin2, gN, gT, gsN, ownD, putO, putFD, en0, en1, own0, List.map_cons, List.map_nil, List.replicate, List.cons.injEq, Nat.sub_self, Nat.reduceSub, Nat.reduceAdd, Bool.not_true, Bool.not_false,  List.length_cons, List.length_nil, List.getElem?_cons_zero, List.getElem?_cons_succ, List.set_cons_zero, List.set_cons_succ, List.cons_append, List.nil_append, Option.some.injEq, Sl.s.injEq, Sl.o.injEq, Sl.m.injEq, reduceCtorEq, D.int.injEq, D.bl.injEq, D.lst.injEq, D.tup.injEq, D.str.injEq, D.dic.injEq, D.obj.injEq, bne_self_eq_false, Bool.bne_true, Bool.bne_false, ite_true, ite_false, exists_eq_left', exists_eq_left, exists_eq_right, exists_eq', exists_and_left, exists_const, or_false, false_or, and_true, true_and, and_false, false_and, if_true, if_false, Bool.false_eq_true, dInt_i]
    exact ⟨by omega, q⟩
  have e2 : D.lst ((rgI L.length).map fun x => D.int (((L.length : Int) - x) % (L.length : Int))) = dl (backO L.length) := by unfold backO; rw [dl, List.map_map]; rfl
  rw [e2]
  simp only [sSeq, sIf, sFor, sSet, sSetO, sRet, sRetN, sNx, sNo, sEx, sFz, sFq, sFldS, sSub, sApp, sExt, sDput, sDupd, sAsg, sParSS, sParSO, sParOS, sParOO, eV, eO, eC, eBin, eUn, eCall, eCallO', eCallO, eMake, eMeth, eCallR, eIf, eNot, eAnd, eOr, eTup, eLst, eIxO, ePop, eIndex, eD1, eSl, oNo, oIs, aNil, aCons, aStar, tV, uNot, uAnd, uOr, uYes, dI, dIs, DV.isNon, dLen, dTuple, dNeg, dMax2, dMin2, gN, gT, gsN, ownD, putO, putFD, en0, en1, own0, List.map_cons, List.map_nil, List.replicate, List.cons.injEq, Nat.sub_self, Nat.reduceSub, Nat.reduceAdd, Bool.not_true, Bool.not_false,  List.length_cons, List.length_nil, List.getElem?_cons_zero, List.getElem?_cons_succ, List.set_cons_zero, List.set_cons_succ, List.cons_append, List.nil_append, Option.some.injEq, Sl.s.injEq, Sl.o.injEq, Sl.m.injEq, reduceCtorEq, D.int.injEq, D.bl.injEq, D.lst.injEq, D.tup.injEq, D.str.injEq, D.dic.injEq, D.obj.injEq, bne_self_eq_false, Bool.bne_true, Bool.bne_false, ite_true, ite_false, exists_eq_left', exists_eq_left, exists_eq_right, exists_eq', exists_and_left, exists_const, or_false, false_or, and_true, true_and, and_false, false_and, if_true, if_false, Bool.false_eq_true, dRng]
  refine ⟨by decide, by decide, by omega, by omega, ?_⟩
  rw [Int.toNat_natCast, rgD_eq]
  refine ⟨k + 1, d1, rgI L.length, rfl, hp1, by rw [rgI_len]; omega, by rw [rgI_len]; omega, fun o d2 ho hp2 => ?_⟩
  rw [rgI_len] at hp2
  refine ⟨⟨_, rfl, rfl⟩, L, o, rfl, ok, ho, ?_⟩
  refine ⟨by decide, by decide, _, rfl, _, .inl rfl, ?_⟩
  dsimp only
  have e3 : [D.tup [ringD K (L.drop b ++ L.take b), dl (turnO L.length (b : Int))], D.tup [ringD K (L.take 1 ++ (L.drop 1).reverse), dl (backO L.length)], D.tup [ringD K (o.map (gI L)), dl o]] = [turnO L.length (b : Int), backO L.length, o].map fun q => D.tup [ringD K (q.map (gI L)), dl q] := by
    simp only [List.map_cons, List.map_nil]
    rw [turn_at hb, back_at (by omega)]
  rw [e3]
  generalize D.lst ([turnO L.length (b : Int), backO L.length, o].map fun q => D.tup [ringD K (q.map (gI L)), dl q]) = rows
  have hpk : PenOk (k + 10) d2 := by
    obtain ⟨c, a, e, h1, h2, h3, h4, h5⟩ := hp2
    exact ⟨c, a, e, h1, h2, h3, by omega, h5⟩
  refine forD_ind (fun ys ρ => ∃ z7 z8 z9 : Sl, ρ = [.m d2, .s (dl L), .s (ringD K L), .s (.int L.length), .s (.int (b : Int)), .s rows, .s (dl o), z7, z8, z9, .e] ∧ ∀ q ∈ ys, q.Perm (rgI L.length)) ?_ ?_ ⟨.e, .e, .e, rfl, fun q hq => ?_⟩
  · rintro ρ ⟨z7, z8, z9, rfl, _⟩
    exact ⟨d2, ⟨0, rfl⟩, p d2 hpk⟩
  · rintro q ys ρ ⟨z7, z8, z9, rfl, hq⟩ F hF
    have hqp := hq q List.mem_cons_self
    have hok : okL (q.map (gI L)) := ok.perm (order_perm hqp).symm
    have hlen : (q.map (gI L)).length = L.length := by rw [List.length_map, o_len hqp]
    simp only [sSeq, sIf, sFor, sSet, sSetO, sRet, sRetN, sNx, sNo, sEx, sFz, sFq, sFldS, sSub, sApp, sExt, sDput, sDupd, sAsg, sParSS, sParSO, sParOS, sParOO, eV, eO, eC, eBin, eUn, eCall, eCallO', eCallO, eMake, eMeth, eCallR, eIf, eNot, eAnd, eOr, eTup, eLst, eIxO, ePop, eIndex, eD1, eSl, oNo, oIs, aNil, aCons, aStar, tV, uNot, uAnd, uOr, uYes, dI, dIs, DV.isNon, dLen, dTuple, dNeg, dMax2, dMin2, gN, gT, gsN, ownD, putO, putFD, en0, en1, own0, List.map_cons, List.map_nil, List.replicate, List.cons.injEq, Nat.sub_self, Nat.reduceSub, Nat.reduceAdd, Bool.not_true, Bool.not_false,  List.length_cons, List.length_nil, List.getElem?_cons_zero, List.getElem?_cons_succ, List.set_cons_zero, List.set_cons_succ, List.cons_append, List.nil_append, Option.some.injEq, Sl.s.injEq, Sl.o.injEq, Sl.m.injEq, reduceCtorEq, D.int.injEq, D.bl.injEq, D.lst.injEq, D.tup.injEq, D.str.injEq, D.dic.injEq, D.obj.injEq, bne_self_eq_false, Bool.bne_true, Bool.bne_false, ite_true, ite_false, exists_eq_left', exists_eq_left, exists_eq_right, exists_eq', exists_and_left, exists_const, or_false, false_or, and_true, true_and, and_false, false_and, if_true, if_false, Bool.false_eq_true]
    unfold iLT
    simp only [sSeq, sIf, sFor, sSet, sSetO, sRet, sRetN, sNx, sNo, sEx, sFz, sFq, sFldS, sSub, sApp, sExt, sDput, sDupd, sAsg, sParSS, sParSO, sParOS, sParOO, eV, eO, eC, eBin, eUn, eCall, eCallO', eCallO, eMake, eMeth, eCallR, eIf, eNot, eAnd, eOr, eTup, eLst, eIxO, ePop, eIndex, eD1, eSl, oNo, oIs, aNil, aCons, aStar, tV, uNot, uAnd, uOr, uYes, dI, dIs, DV.isNon, dLen, dTuple, dNeg, dMax2, dMin2, gN, gT, gsN, ownD, putO, putFD, en0, en1, own0, List.map_cons, List.map_nil, List.replicate, List.cons.injEq, Nat.sub_self, Nat.reduceSub, Nat.reduceAdd, Bool.not_true, Bool.not_false,  List.length_cons, List.length_nil, List.getElem?_cons_zero, List.getElem?_cons_succ, List.set_cons_zero, List.set_cons_succ, List.cons_append, List.nil_append, Option.some.injEq, Sl.s.injEq, Sl.o.injEq, Sl.m.injEq, reduceCtorEq, D.int.injEq, D.bl.injEq, D.lst.injEq, D.tup.injEq, D.str.injEq, D.dic.injEq, D.obj.injEq, bne_self_eq_false, Bool.bne_true, Bool.bne_false, ite_true, ite_false, exists_eq_left', exists_eq_left, exists_eq_right, exists_eq', exists_and_left, exists_const, or_false, false_or, and_true, true_and, and_false, false_and, if_true, if_false, Bool.false_eq_true]
    refine ⟨by decide, ?_⟩
    show forD _ _ ((askT K).map fun t => D.glb t.1) _ _
    refine forD_ind (fun zs ρ => ∃ z9 : Sl, ρ = [.m d2, .s (dl L), .s (ringD K L), .s (.int L.length), .s (.int (b : Int)), .s rows, .s (dl o), .s (ringD K (q.map (gI L))), .s (dl q), z9, .e] ∧ ∀ t ∈ zs, t ∈ askT K) ?_ ?_ ⟨z9, rfl, fun _ h => h⟩
    · rintro ρ ⟨z9', rfl, _⟩
      simp only [sSeq, sIf, sFor, sSet, sSetO, sRet, sRetN, sNx, sNo, sEx, sFz, sFq, sFldS, sSub, sApp, sExt, sDput, sDupd, sAsg, sParSS, sParSO, sParOS, sParOO, eV, eO, eC, eBin, eUn, eCall, eCallO', eCallO, eMake, eMeth, eCallR, eIf, eNot, eAnd, eOr, eTup, eLst, eIxO, ePop, eIndex, eD1, eSl, oNo, oIs, aNil, aCons, aStar, tV, uNot, uAnd, uOr, uYes, dI, dIs, DV.isNon, dLen, dTuple, dNeg, dMax2, dMin2, gN, gT, gsN, ownD, putO, putFD, en0, en1, own0, List.map_cons, List.map_nil, List.replicate, List.cons.injEq, Nat.sub_self, Nat.reduceSub, Nat.reduceAdd, Bool.not_true, Bool.not_false,  List.length_cons, List.length_nil, List.getElem?_cons_zero, List.getElem?_cons_succ, List.set_cons_zero, List.set_cons_succ, List.cons_append, List.nil_append, Option.some.injEq, Sl.s.injEq, Sl.o.injEq, Sl.m.injEq, reduceCtorEq, D.int.injEq, D.bl.injEq, D.lst.injEq, D.tup.injEq, D.str.injEq, D.dic.injEq, D.obj.injEq, bne_self_eq_false, Bool.bne_true, Bool.bne_false, ite_true, ite_false, exists_eq_left', exists_eq_left, exists_eq_right, exists_eq', exists_and_left, exists_const, or_false, false_or, and_true, true_and, and_false, false_and, if_true, if_false, Bool.false_eq_true, fld_c, fld_k, fld_t]
      refine ⟨by decide, by decide, ?_⟩
      have ec : closesB (q.map (gI L)) = closesB L := closes_perm (order_perm hqp) (fun x hx => (hok.b x hx).1) hok.ne
      have ek : clearB (q.map (gI L)) = clearB L := clear_perm (order_perm hqp)
      have es : (q.map (gI L)).sum = L.sum := sum_perm (order_perm hqp)
      rw [ec, ek, es]
      refine eq_three ⟨false, rfl, ?_⟩
      rw [if_neg Bool.false_ne_true]
      exact hF _ ⟨_, _, z9', rfl, fun x hx => hq x (List.mem_cons_of_mem _ hx)⟩
    · rintro t zs ρ ⟨z9', rfl, ht⟩ F2 hF2
      have htm := ht t List.mem_cons_self
      simp only [sSeq, sIf, sFor, sSet, sSetO, sRet, sRetN, sNx, sNo, sEx, sFz, sFq, sFldS, sSub, sApp, sExt, sDput, sDupd, sAsg, sParSS, sParSO, sParOS, sParOO, eV, eO, eC, eBin, eUn, eCall, eCallO', eCallO, eMake, eMeth, eCallR, eIf, eNot, eAnd, eOr, eTup, eLst, eIxO, ePop, eIndex, eD1, eSl, oNo, oIs, aNil, aCons, aStar, tV, uNot, uAnd, uOr, uYes, dI, dIs, DV.isNon, dLen, dTuple, dNeg, dMax2, dMin2, gN, gT, gsN, ownD, putO, putFD, en0, en1, own0, List.map_cons, List.map_nil, List.replicate, List.cons.injEq, Nat.sub_self, Nat.reduceSub, Nat.reduceAdd, Bool.not_true, Bool.not_false,  List.length_cons, List.length_nil, List.getElem?_cons_zero, List.getElem?_cons_succ, List.set_cons_zero, List.set_cons_succ, List.cons_append, List.nil_append, Option.some.injEq, Sl.s.injEq, Sl.o.injEq, Sl.m.injEq, reduceCtorEq, D.int.injEq, D.bl.injEq, D.lst.injEq, D.tup.injEq, D.str.injEq, D.dic.injEq, D.obj.injEq, bne_self_eq_false, Bool.bne_true, Bool.bne_false, ite_true, ite_false, exists_eq_left', exists_eq_left, exists_eq_right, exists_eq', exists_and_left, exists_const, or_false, false_or, and_true, true_and, and_false, false_and, if_true, if_false, Bool.false_eq_true]
      refine ⟨t.1, rfl, spBook K t.2, ask_in htm, q.map (gI L), rfl, hok, fun B hB => ?_⟩
      refine ⟨t.1, rfl, spBook K t.2, ask_in htm, L, rfl, ok, fun A hA => ?_⟩
      refine ⟨L.length, A, q, rfl, h8, hqp, fun lot h => ((hA.mem lot).mp h).1, book_nodup hA, hA.few, fun C hC hm => ?_⟩
      rw [hlen] at hB
      have hBC := book_order hqp (fun lot lot' h1 h2 => ask_order htm hqp h1 h2) hA hB hC hm
      subst hBC
      refine eq_tt ⟨false, by rw [decide_eq_true rfl]; rfl, ?_⟩
      rw [if_neg Bool.false_ne_true]
      exact hF2 _ ⟨_, rfl, fun x hx => ht x (List.mem_cons_of_mem _ hx)⟩
  · rcases List.mem_cons.mp hq with e | hq
    · rw [e]; exact turn_perm hb
    · rcases List.mem_cons.mp hq with e | hq
      · rw [e]; exact back_perm (by omega)
      · rw [List.mem_singleton.mp hq]; exact ho
end KT

set_option Elab.async false
set_option linter.all false
set_option maxRecDepth 100000
set_option maxHeartbeats 4000000
/-! The pure part: a bar put in two. -/
namespace KT
open PySem L2 DV
theorem gI_some {L : List Int} {i : Nat} {x : Int} (h : L[i]? = some x) : gI L (i : Int) = x := by
  unfold gI
  rw [Int.toNat_natCast, List.getD_eq_getElem?_getD, h]; rfl
theorem some_gI {L : List Int} {i : Nat} (h : i < L.length) : L[i]? = some (gI L (i : Int)) := by
  rw [List.getElem?_eq_getElem h, gI_nat h]
section
variable {L : List Int} {b : Nat} {x : Int} (hb : b < L.length)
include hb
theorem two_lo {i : Nat} (h : i < b) : gI (inTwo L b x) (i : Int) = gI L (i : Int) := by
  refine gI_some ?_
  unfold inTwo
  rw [List.getElem?_append_left (by rw [List.length_take]; omega), List.getElem?_take, if_pos h, some_gI (by omega)]
theorem two_b : gI (inTwo L b x) (b : Int) = x := by
  refine gI_some ?_
  unfold inTwo
  rw [List.getElem?_append_right (by rw [List.length_take]; omega), List.length_take, Nat.min_eq_left (by omega), Nat.sub_self]; rfl
theorem two_b1 : gI (inTwo L b x) ((b : Int) + 1) = gI L (b : Int) - x := by
  have e : ((b : Int) + 1) = ((b + 1 : Nat) : Int) := by omega
  rw [e]
  refine gI_some ?_
  unfold inTwo
  rw [List.getElem?_append_right (by rw [List.length_take]; omega), List.length_take, Nat.min_eq_left (by omega)]
  have e2 : b + 1 - b = 1 := by omega
  rw [e2]; rfl
theorem two_hi {i : Nat} (h : b < i) (hi : i < L.length) : gI (inTwo L b x) ((i : Int) + 1) = gI L (i : Int) := by
  have e : ((i : Int) + 1) = ((i + 1 : Nat) : Int) := by omega
  rw [e]
  refine gI_some ?_
  unfold inTwo
  rw [List.getElem?_append_right (by rw [List.length_take]; omega), List.length_take, Nat.min_eq_left (by omega)]
  have e2 : i + 1 - b = (i - 1 - b) + 1 + 1 := by omega
  rw [e2, List.getElem?_cons_succ, List.getElem?_cons_succ, List.getElem?_drop]
  have e3 : b + 1 + (i - 1 - b) = i := by omega
  rw [e3, some_gI hi]
end
def up (b a : Int) : Int := if b < a then a + 1 else a
def moved (b : Int) (lot : List Int) : List Int := lot.map (up b) ++ if b ∈ lot then [b + 1] else []
theorem up_two {L : List Int} {b : Nat} {x a : Int} (hb : b < L.length) (h0 : 0 ≤ a) (h1 : a < (L.length : Int)) : gI (inTwo L b x) (up b a) = if a = (b : Int) then x else gI L a := by
  obtain ⟨i, rfl⟩ : ∃ i : Nat, a = i := ⟨a.toNat, by omega⟩
  unfold up
  by_cases c : (b : Int) < (i : Int)
  · rw [if_pos c, if_neg (by omega), two_hi hb (by omega) (by omega)]
  · rw [if_neg c]
    by_cases d : i = b
    · subst d; rw [if_pos rfl, two_b hb]
    · rw [if_neg (by omega), two_lo hb (by omega)]
theorem two_map {L : List Int} {b : Nat} {x : Int} (hb : b < L.length) : ∀ {lot : List Int}, lotOk L.length lot → lsum (inTwo L b x) (lot.map (up b)) + (if (b : Int) ∈ lot then gI L (b : Int) - x else 0) = lsum L lot
  | [], _ => by simp [lsum]
  | a :: lot, h => by
    obtain ⟨h1, h2⟩ := h
    obtain ⟨n1, n2⟩ := List.nodup_cons.mp h1
    have ha := h2 a List.mem_cons_self
    have ih := two_map (x := x) hb (lot := lot) ⟨n2, fun c hc => h2 c (List.mem_cons_of_mem _ hc)⟩
    have e1 : lsum (inTwo L b x) ((a :: lot).map (up b)) = gI (inTwo L b x) (up b a) + lsum (inTwo L b x) (lot.map (up b)) := by simp [lsum]
    have e2 : lsum L (a :: lot) = gI L a + lsum L lot := by simp [lsum]
    rw [e1, e2, up_two hb ha.1 ha.2]
    by_cases c : a = (b : Int)
    · subst c
      rw [if_neg n1] at ih
      rw [if_pos rfl, if_pos List.mem_cons_self]
      omega
    · rw [if_neg c]
      by_cases d : (b : Int) ∈ lot
      · rw [if_pos d] at ih
        rw [if_pos (List.mem_cons_of_mem _ d)]
        omega
      · rw [if_neg d] at ih
        rw [if_neg (fun q => (List.mem_cons.mp q).elim (fun e => c e.symm) d)]
        omega
theorem two_sum {L : List Int} {b : Nat} {x : Int} (hb : b < L.length) {lot : List Int} (h : lotOk L.length lot) : lsum (inTwo L b x) (moved b lot) = lsum L lot := by
  rw [← two_map (x := x) hb h]
  unfold moved
  by_cases c : (b : Int) ∈ lot
  · rw [if_pos c, if_pos c, lsum_snoc, two_b1 hb]
  · rw [if_neg c, if_neg c, List.append_nil]; omega
theorem two_lot {n : Nat} {b : Nat} (hb : b < n) {lot : List Int} (h : lotOk n lot) : lotOk (n + 1) (moved b lot) := by
  obtain ⟨h1, h2⟩ := h
  unfold moved
  have inj : (lot.map (up b)).Nodup := by
    unfold List.Nodup
    rw [List.pairwise_map]
    refine h1.imp fun {a c} hne e => hne ?_
    unfold up at e
    split at e <;> split at e <;> omega
  constructor
  · refine List.nodup_append.mpr ⟨inj, by split <;> simp, fun a ha c hc e => ?_⟩
    obtain ⟨y, hy, rfl⟩ := List.mem_map.mp ha
    split at hc
    · have hc := List.mem_singleton.mp hc
      unfold up at e
      split at e <;> omega
    · cases hc
  · intro c hc
    rcases List.mem_append.mp hc with hc | hc
    · obtain ⟨y, hy, rfl⟩ := List.mem_map.mp hc
      have := h2 y hy
      unfold up
      split <;> omega
    · split at hc
      · have hc := List.mem_singleton.mp hc; omega
      · cases hc
theorem two_total {L : List Int} {b : Nat} {x : Int} (hb : b < L.length) : (inTwo L b x).sum = L.sum := by
  have e : L = L.take b ++ gI L (b : Int) :: L.drop (b + 1) := by
    rw [gI_nat hb, ← List.drop_eq_getElem_cons hb, List.take_append_drop]
  have e2 : L.sum = (L.take b).sum + (gI L (b : Int) + (L.drop (b + 1)).sum) := by
    have := congrArg List.sum e
    rw [List.sum_append, List.sum_cons] at this
    exact this
  unfold inTwo
  rw [List.sum_append, List.sum_cons, List.sum_cons, e2]; omega
theorem two_closes {L : List Int} {b : Nat} {x : Int} (ok : okL L) (hb : b < L.length) (h1 : 1 ≤ x) (h2 : x < gI L (b : Int)) (h : closesB L = true) (ok' : okL (inTwo L b x)) : closesB (inTwo L b x) = true := by
  unfold closesB at h ⊢
  rw [two_total hb]
  have h := of_decide_eq_true h
  refine decide_eq_true ?_
  have hm := mx_mem (fun y hy => (ok'.b y hy).1) ok'.ne
  have hbm : gI L (b : Int) ≤ mx L := mx_le (gI_mem (by omega) (by omega))
  have : mx (inTwo L b x) ≤ mx L := by
    generalize mx (inTwo L b x) = m at hm
    unfold inTwo at hm
    rcases List.mem_append.mp hm with hm | hm
    · exact mx_le (List.mem_of_mem_take hm)
    · rcases List.mem_cons.mp hm with e | hm
      · omega
      · rcases List.mem_cons.mp hm with e | hm
        · omega
        · exact mx_le (List.mem_of_mem_drop hm)
  omega
theorem srt_of {L L' lot lot' : List Int} (h : L'.sum = L.sum) (h2 : lsum L' lot' = lsum L lot) : srt L' lot' = srt L lot := by
  unfold srt; rw [h, h2]
theorem lot_ok {n : Nat} {lot : List Int} (h : Lot n lot) : lotOk n lot := ⟨asc_nodup h.1, h.2⟩
theorem len__law_two_right (K : PySem.W.Frag) : ∀ ds P R, sp__law_two_right K ds P R → ds.length = 2 := fun _ _ _ ⟨_, _, _, e, _⟩ => by rw [e]; rfl
theorem pu__law_two_right (K : PySem.W.Frag) : ∀ d0 ds (Po : D → D → Prop) (R : DX → D → Prop), sp__law_two_right K (d0 :: ds) Po R → B__law_two_right K (en1 ["_law_pen_here", "_law_lengths_here", "_law_ring", "_law_many", "_law_bar", "_law_new", "_law_lot", "_law_moved", "_law_at"] d0 ds) { nx := fun ρ => ∃ d1, own0 ρ d1 ∧ Po .non d1, rt := fun d ρ => ∃ d1, own0 ρ d1 ∧ Po d d1, xe := fun y ρ => ∃ d1, own0 ρ d1 ∧ R y d1 } := by
  rintro d0 ds Po R ⟨k, d0', L, e, hp, hk, ok, h7, ⟨y, hy, hy1⟩, p⟩
  cases e
  have h3 := ok.lo
  simp only [B__law_two_right, sSeq, sIf, sFor, sSet, sSetO, sRet, sRetN, sNx, sNo, sEx, sFz, sFq, sFldS, sSub, sApp, sExt, sDput, sDupd, sAsg, sParSS, sParSO, sParOS, sParOO, eV, eO, eC, eBin, eUn, eCall, eCallO', eCallO, eMake, eMeth, eCallR, eIf, eNot, eAnd, eOr, eTup, eLst, eIxO, ePop, eIndex, eD1, eSl, oNo, oIs, aNil, aCons, aStar, tV, uNot, uAnd, uOr, uYes, dI, dIs, DV.isNon, dLen, dTuple, dNeg, dMax2, dMin2, gN, gT, gsN, ownD, putO, putFD, en0, en1, own0, List.map_cons, List.map_nil, List.replicate, List.cons.injEq, Nat.sub_self, Nat.reduceSub, Nat.reduceAdd, Bool.not_true, Bool.not_false,  List.length_cons, List.length_nil, List.getElem?_cons_zero, List.getElem?_cons_succ, List.set_cons_zero, List.set_cons_succ, List.cons_append, List.nil_append, Option.some.injEq, Sl.s.injEq, Sl.o.injEq, Sl.m.injEq, reduceCtorEq, D.int.injEq, D.bl.injEq, D.lst.injEq, D.tup.injEq, D.str.injEq, D.dic.injEq, D.obj.injEq, bne_self_eq_false, Bool.bne_true, Bool.bne_false, ite_true, ite_false, exists_eq_left', exists_eq_left, exists_eq_right, exists_eq', exists_and_left, exists_const, or_false, false_or, and_true, true_and, and_false, false_and, if_true, if_false, Bool.false_eq_true, dLen, List.length_map]
  refine make_ring (.inl rfl) ok ?_
  refine eLc_p (rgI L.length) D.int (fun a => [.m d0, .s (dl L), .s (ringD K L), .s (.int L.length), .e, .e, .e, .e, .s (.int a)]) (fun a => decide (1 < gI L a)) D.int (fun Q q => iR1_of (by omega) (fun Q q => ⟨_, rfl, q⟩) q) (by simp [quiet]) (fun x _ Q q => q) (fun _ _ => rfl) (fun a ha Q q => ?_) (fun a _ _ Q q => ⟨_, rfl, q⟩) (sz (by rw [rgI_len]; omega)) ?_
  · have ha := rgI_mem.mp ha
    simp only [sSeq, sIf, sFor, sSet, sSetO, sRet, sRetN, sNx, sNo, sEx, sFz, sFq, sFldS, sSub, sApp, sExt, sDput, sDupd, sAsg, sParSS, sParSO, sParOS, sParOO, eV, eO, eC, eBin, eUn, eCall, eCallO', eCallO, eMake, eMeth, eCallR, eIf, eNot, eAnd, eOr, eTup, eLst, eIxO, ePop, eIndex, eD1, eSl, oNo, oIs, aNil, aCons, aStar, tV, uNot, uAnd, uOr, uYes, dI, dIs, DV.isNon, dLen, dTuple, dNeg, dMax2, dMin2, gN, gT, gsN, ownD, putO, putFD, en0, en1, own0, List.map_cons, List.map_nil, List.replicate, List.cons.injEq, Nat.sub_self, Nat.reduceSub, Nat.reduceAdd, Bool.not_true, Bool.not_false,  List.length_cons, List.length_nil, List.getElem?_cons_zero, List.getElem?_cons_succ, List.set_cons_zero, List.set_cons_succ, List.cons_append, List.nil_append, Option.some.injEq, Sl.s.injEq, Sl.o.injEq, Sl.m.injEq, reduceCtorEq, D.int.injEq, D.bl.injEq, D.lst.injEq, D.tup.injEq, D.str.injEq, D.dic.injEq, D.obj.injEq, bne_self_eq_false, Bool.bne_true, Bool.bne_false, ite_true, ite_false, exists_eq_left', exists_eq_left, exists_eq_right, exists_eq', exists_and_left, exists_const, or_false, false_or, and_true, true_and, and_false, false_and, if_true, if_false, Bool.false_eq_true]
    exact ix_l ha.1 ha.2 ⟨trivial, _, rfl, q⟩
  have hne : (rgI L.length).filter (fun a => decide (1 < gI L a)) ≠ [] := fun e => by
    obtain ⟨i, hi, e2⟩ := List.mem_iff_getElem.mp hy
    have hm : (i : Int) ∈ (rgI L.length).filter (fun a => decide (1 < gI L a)) := List.mem_filter.mpr ⟨rgI_mem.mpr (by omega), decide_eq_true (by rw [gI_nat hi, e2]; exact hy1)⟩
    rw [e] at hm; cases hm
  simp only [sSeq, sIf, sFor, sSet, sSetO, sRet, sRetN, sNx, sNo, sEx, sFz, sFq, sFldS, sSub, sApp, sExt, sDput, sDupd, sAsg, sParSS, sParSO, sParOS, sParOO, eV, eO, eC, eBin, eUn, eCall, eCallO', eCallO, eMake, eMeth, eCallR, eIf, eNot, eAnd, eOr, eTup, eLst, eIxO, ePop, eIndex, eD1, eSl, oNo, oIs, aNil, aCons, aStar, tV, uNot, uAnd, uOr, uYes, dI, dIs, DV.isNon, dLen, dTuple, dNeg, dMax2, dMin2, gN, gT, gsN, ownD, putO, putFD, en0, en1, own0, List.map_cons, List.map_nil, List.replicate, List.cons.injEq, Nat.sub_self, Nat.reduceSub, Nat.reduceAdd, Bool.not_true, Bool.not_false,  List.length_cons, List.length_nil, List.getElem?_cons_zero, List.getElem?_cons_succ, List.set_cons_zero, List.set_cons_succ, List.cons_append, List.nil_append, Option.some.injEq, Sl.s.injEq, Sl.o.injEq, Sl.m.injEq, reduceCtorEq, D.int.injEq, D.bl.injEq, D.lst.injEq, D.tup.injEq, D.str.injEq, D.dic.injEq, D.obj.injEq, bne_self_eq_false, Bool.bne_true, Bool.bne_false, ite_true, ite_false, exists_eq_left', exists_eq_left, exists_eq_right, exists_eq', exists_and_left, exists_const, or_false, false_or, and_true, true_and, and_false, false_and, if_true, if_false, Bool.false_eq_true]
  refine ⟨k, d0, _, rfl, hp, by omega, hne, Nat.le_trans (List.length_filter_le _ _) (by rw [rgI_len]; omega), fun v d1 hv hp1 => ?_⟩
  obtain ⟨hv1, hv2⟩ := List.mem_filter.mp hv
  have hv1 := rgI_mem.mp hv1
  have hv2 := of_decide_eq_true hv2
  obtain ⟨b, rfl⟩ : ∃ b : Nat, v = b := ⟨v.toNat, by omega⟩
  have hb : b < L.length := by omega
  have hbm := ok.b _ (gI_mem (L := L) (b := (b : Int)) (by omega) (by omega))
  try simp only [sSeq, sIf, sFor, sSet, sSetO, sRet, sRetN, sNx, sNo, sEx, sFz, sFq, sFldS, sSub, sApp, sExt, sDput, sDupd, sAsg, sParSS, sParSO, sParOS, sParOO, eV, eO, eC, eBin, eUn, eCall, eCallO', eCallO, eMake, eMeth, eCallR, eIf, eNot, eAnd, eOr, eTup, eLst, eIxO, ePop, eIndex, eD1, eSl, oNo, oIs, aNil, aCons, aStar, tV, uNot, uAnd, uOr, uYes, dI, dIs, DV.isNon, dLen, dTuple, dNeg, dMax2, dMin2, gN, gT, gsN, ownD, putO, putFD, en0, en1, own0, List.map_cons, List.map_nil, List.replicate, List.cons.injEq, Nat.sub_self, Nat.reduceSub, Nat.reduceAdd, Bool.not_true, Bool.not_false,  List.length_cons, List.length_nil, List.getElem?_cons_zero, List.getElem?_cons_succ, List.set_cons_zero, List.set_cons_succ, List.cons_append, List.nil_append, Option.some.injEq, Sl.s.injEq, Sl.o.injEq, Sl.m.injEq, reduceCtorEq, D.int.injEq, D.bl.injEq, D.lst.injEq, D.tup.injEq, D.str.injEq, D.dic.injEq, D.obj.injEq, bne_self_eq_false, Bool.bne_true, Bool.bne_false, ite_true, ite_false, exists_eq_left', exists_eq_left, exists_eq_right, exists_eq', exists_and_left, exists_const, or_false, false_or, and_true, true_and, and_false, false_and, if_true, if_false, Bool.false_eq_true]
  refine ⟨⟨_, rfl, rfl⟩, ?_⟩
  refine ix_l (by omega) (by omega) ?_
  try simp only [sSeq, sIf, sFor, sSet, sSetO, sRet, sRetN, sNx, sNo, sEx, sFz, sFq, sFldS, sSub, sApp, sExt, sDput, sDupd, sAsg, sParSS, sParSO, sParOS, sParOO, eV, eO, eC, eBin, eUn, eCall, eCallO', eCallO, eMake, eMeth, eCallR, eIf, eNot, eAnd, eOr, eTup, eLst, eIxO, ePop, eIndex, eD1, eSl, oNo, oIs, aNil, aCons, aStar, tV, uNot, uAnd, uOr, uYes, dI, dIs, DV.isNon, dLen, dTuple, dNeg, dMax2, dMin2, gN, gT, gsN, ownD, putO, putFD, en0, en1, own0, List.map_cons, List.map_nil, List.replicate, List.cons.injEq, Nat.sub_self, Nat.reduceSub, Nat.reduceAdd, Bool.not_true, Bool.not_false,  List.length_cons, List.length_nil, List.getElem?_cons_zero, List.getElem?_cons_succ, List.set_cons_zero, List.set_cons_succ, List.cons_append, List.nil_append, Option.some.injEq, Sl.s.injEq, Sl.o.injEq, Sl.m.injEq, reduceCtorEq, D.int.injEq, D.bl.injEq, D.lst.injEq, D.tup.injEq, D.str.injEq, D.dic.injEq, D.obj.injEq, bne_self_eq_false, Bool.bne_true, Bool.bne_false, ite_true, ite_false, exists_eq_left', exists_eq_left, exists_eq_right, exists_eq', exists_and_left, exists_const, or_false, false_or, and_true, true_and, and_false, false_and, if_true, if_false, Bool.false_eq_true]
  refine ⟨k + 1, d1, gI L (b : Int) - 1, rfl, hp1, by omega, by omega, by omega, fun v d2 hv0 hv1 hp2 => ?_⟩
  simp only [dAdd, sSeq, sIf, sFor, sSet, sSetO, sRet, sRetN, sNx, sNo, sEx, sFz, sFq, sFldS, sSub, sApp, sExt, sDput, sDupd, sAsg, sParSS, sParSO, sParOS, sParOO, eV, eO, eC, eBin, eUn, eCall, eCallO', eCallO, eMake, eMeth, eCallR, eIf, eNot, eAnd, eOr, eTup, eLst, eIxO, ePop, eIndex, eD1, eSl, oNo, oIs, aNil, aCons, aStar, tV, uNot, uAnd, uOr, uYes, dI, dIs, DV.isNon, dLen, dTuple, dNeg, dMax2, dMin2, gN, gT, gsN, ownD, putO, putFD, en0, en1, own0, List.map_cons, List.map_nil, List.replicate, List.cons.injEq, Nat.sub_self, Nat.reduceSub, Nat.reduceAdd, Bool.not_true, Bool.not_false,  List.length_cons, List.length_nil, List.getElem?_cons_zero, List.getElem?_cons_succ, List.set_cons_zero, List.set_cons_succ, List.cons_append, List.nil_append, Option.some.injEq, Sl.s.injEq, Sl.o.injEq, Sl.m.injEq, reduceCtorEq, D.int.injEq, D.bl.injEq, D.lst.injEq, D.tup.injEq, D.str.injEq, D.dic.injEq, D.obj.injEq, bne_self_eq_false, Bool.bne_true, Bool.bne_false, ite_true, ite_false, exists_eq_left', exists_eq_left, exists_eq_right, exists_eq', exists_and_left, exists_const, or_false, false_or, and_true, true_and, and_false, false_and, if_true, if_false, Bool.false_eq_true]
  refine ⟨L, b, 1 + v, rfl, ok, h7, hb, by omega, by omega, ?_⟩
  have ok' := inTwo_ok ok h7 hb (x := 1 + v) (by omega) (by omega)
  have hlen' : (inTwo L b (1 + v)).length = L.length + 1 := inTwo_len hb
  unfold iLT
  simp only [sSeq, sIf, sFor, sSet, sSetO, sRet, sRetN, sNx, sNo, sEx, sFz, sFq, sFldS, sSub, sApp, sExt, sDput, sDupd, sAsg, sParSS, sParSO, sParOS, sParOO, eV, eO, eC, eBin, eUn, eCall, eCallO', eCallO, eMake, eMeth, eCallR, eIf, eNot, eAnd, eOr, eTup, eLst, eIxO, ePop, eIndex, eD1, eSl, oNo, oIs, aNil, aCons, aStar, tV, uNot, uAnd, uOr, uYes, dI, dIs, DV.isNon, dLen, dTuple, dNeg, dMax2, dMin2, gN, gT, gsN, ownD, putO, putFD, en0, en1, own0, List.map_cons, List.map_nil, List.replicate, List.cons.injEq, Nat.sub_self, Nat.reduceSub, Nat.reduceAdd, Bool.not_true, Bool.not_false,  List.length_cons, List.length_nil, List.getElem?_cons_zero, List.getElem?_cons_succ, List.set_cons_zero, List.set_cons_succ, List.cons_append, List.nil_append, Option.some.injEq, Sl.s.injEq, Sl.o.injEq, Sl.m.injEq, reduceCtorEq, D.int.injEq, D.bl.injEq, D.lst.injEq, D.tup.injEq, D.str.injEq, D.dic.injEq, D.obj.injEq, bne_self_eq_false, Bool.bne_true, Bool.bne_false, ite_true, ite_false, exists_eq_left', exists_eq_left, exists_eq_right, exists_eq', exists_and_left, exists_const, or_false, false_or, and_true, true_and, and_false, false_and, if_true, if_false, Bool.false_eq_true]
  refine ⟨L.length, rfl, by omega, fun Ls hB => ⟨_, .inl rfl, ?_⟩⟩
  refine forD_ind (fun ys ρ => ∃ z6 z7 : Sl, ρ = [.m d2, .s (dl L), .s (ringD K L), .s (.int L.length), .s (.int (b : Int)), .s (ringD K (inTwo L b (1 + v))), z6, z7, .e] ∧ ∀ lot ∈ ys, Lot L.length lot) ?_ ?_ ⟨.e, .e, rfl, fun lot h => ((hB.mem lot).mp h).1⟩
  · rintro ρ ⟨z6, z7, rfl, _⟩
    simp only [sSeq, sIf, sFor, sSet, sSetO, sRet, sRetN, sNx, sNo, sEx, sFz, sFq, sFldS, sSub, sApp, sExt, sDput, sDupd, sAsg, sParSS, sParSO, sParOS, sParOO, eV, eO, eC, eBin, eUn, eCall, eCallO', eCallO, eMake, eMeth, eCallR, eIf, eNot, eAnd, eOr, eTup, eLst, eIxO, ePop, eIndex, eD1, eSl, oNo, oIs, aNil, aCons, aStar, tV, uNot, uAnd, uOr, uYes, dI, dIs, DV.isNon, dLen, dTuple, dNeg, dMax2, dMin2, gN, gT, gsN, ownD, putO, putFD, en0, en1, own0, List.map_cons, List.map_nil, List.replicate, List.cons.injEq, Nat.sub_self, Nat.reduceSub, Nat.reduceAdd, Bool.not_true, Bool.not_false,  List.length_cons, List.length_nil, List.getElem?_cons_zero, List.getElem?_cons_succ, List.set_cons_zero, List.set_cons_succ, List.cons_append, List.nil_append, Option.some.injEq, Sl.s.injEq, Sl.o.injEq, Sl.m.injEq, reduceCtorEq, D.int.injEq, D.bl.injEq, D.lst.injEq, D.tup.injEq, D.str.injEq, D.dic.injEq, D.obj.injEq, bne_self_eq_false, Bool.bne_true, Bool.bne_false, ite_true, ite_false, exists_eq_left', exists_eq_left, exists_eq_right, exists_eq', exists_and_left, exists_const, or_false, false_or, and_true, true_and, and_false, false_and, if_true, if_false, Bool.false_eq_true, fld_c, dIs]
    have hcl := two_closes (x := 1 + v) ok hb (by omega) (by omega)
    cases hc' : closesB (inTwo L b (1 + v)) with
    | true => exact ⟨d2, ⟨0, rfl⟩, p d2 hp2⟩
    | false =>
      cases hc : closesB L with
      | true => rw [hcl hc ok'] at hc'; cases hc'
      | false => exact ⟨d2, ⟨0, rfl⟩, p d2 hp2⟩
  · rintro lot ys ρ ⟨z6, z7, rfl, hl⟩ F hF
    have hlot := hl lot List.mem_cons_self
    have h8 := lot_len (by omega) hlot
    have hmk := two_lot hb (lot_ok hlot)
    simp only [sSeq, sIf, sFor, sSet, sSetO, sRet, sRetN, sNx, sNo, sEx, sFz, sFq, sFldS, sSub, sApp, sExt, sDput, sDupd, sAsg, sParSS, sParSO, sParOS, sParOO, eV, eO, eC, eBin, eUn, eCall, eCallO', eCallO, eMake, eMeth, eCallR, eIf, eNot, eAnd, eOr, eTup, eLst, eIxO, ePop, eIndex, eD1, eSl, oNo, oIs, aNil, aCons, aStar, tV, uNot, uAnd, uOr, uYes, dI, dIs, DV.isNon, dLen, dTuple, dNeg, dMax2, dMin2, gN, gT, gsN, ownD, putO, putFD, en0, en1, own0, List.map_cons, List.map_nil, List.replicate, List.cons.injEq, Nat.sub_self, Nat.reduceSub, Nat.reduceAdd, Bool.not_true, Bool.not_false,  List.length_cons, List.length_nil, List.getElem?_cons_zero, List.getElem?_cons_succ, List.set_cons_zero, List.set_cons_succ, List.cons_append, List.nil_append, Option.some.injEq, Sl.s.injEq, Sl.o.injEq, Sl.m.injEq, reduceCtorEq, D.int.injEq, D.bl.injEq, D.lst.injEq, D.tup.injEq, D.str.injEq, D.dic.injEq, D.obj.injEq, bne_self_eq_false, Bool.bne_true, Bool.bne_false, ite_true, ite_false, exists_eq_left', exists_eq_left, exists_eq_right, exists_eq', exists_and_left, exists_const, or_false, false_or, and_true, true_and, and_false, false_and, if_true, if_false, Bool.false_eq_true]
    refine eLc_p1 lot D.int (fun a => [.m d2, .s (dl L), .s (ringD K L), .s (.int L.length), .s (.int (b : Int)), .s (ringD K (inTwo L b (1 + v))), .s (dt lot), z7, .s (.int a)]) (fun a => D.int (up b a)) (fun Q q => ⟨_, rfl, _, .inr rfl, q⟩) (by simp [quiet]) (fun x _ Q q => q) (fun _ _ => rfl) (fun a ha Q q => ?_) (sz (by omega)) ?_
    · simp only [sSeq, sIf, sFor, sSet, sSetO, sRet, sRetN, sNx, sNo, sEx, sFz, sFq, sFldS, sSub, sApp, sExt, sDput, sDupd, sAsg, sParSS, sParSO, sParOS, sParOO, eV, eO, eC, eBin, eUn, eCall, eCallO', eCallO, eMake, eMeth, eCallR, eIf, eNot, eAnd, eOr, eTup, eLst, eIxO, ePop, eIndex, eD1, eSl, oNo, oIs, aNil, aCons, aStar, tV, uNot, uAnd, uOr, uYes, dI, dIs, DV.isNon, dLen, dTuple, dNeg, dMax2, dMin2, gN, gT, gsN, ownD, putO, putFD, en0, en1, own0, List.map_cons, List.map_nil, List.replicate, List.cons.injEq, Nat.sub_self, Nat.reduceSub, Nat.reduceAdd, Bool.not_true, Bool.not_false,  List.length_cons, List.length_nil, List.getElem?_cons_zero, List.getElem?_cons_succ, List.set_cons_zero, List.set_cons_succ, List.cons_append, List.nil_append, Option.some.injEq, Sl.s.injEq, Sl.o.injEq, Sl.m.injEq, reduceCtorEq, D.int.injEq, D.bl.injEq, D.lst.injEq, D.tup.injEq, D.str.injEq, D.dic.injEq, D.obj.injEq, bne_self_eq_false, Bool.bne_true, Bool.bne_false, ite_true, ite_false, exists_eq_left', exists_eq_left, exists_eq_right, exists_eq', exists_and_left, exists_const, or_false, false_or, and_true, true_and, and_false, false_and, if_true, if_false, Bool.false_eq_true, dAdd, dInt_b]
      have e : (a + if decide ((b : Int) < a) = true then (1 : Int) else 0) = up b a := by
        unfold up
        by_cases c : (b : Int) < a
        · rw [if_pos c, if_pos (decide_eq_true c)]
        · rw [if_neg c, if_neg (by simp [c])]; omega
      rw [e]; exact q
    have em : (lot.map fun a => D.int (up b a)) = (lot.map (up b)).map D.int := by rw [List.map_map]; rfl
    have fin : ∀ G : D → Prop, G (dl (moved b lot)) → dIn false (.int (b : Int)) (dt lot) fun z => ∃ c, z = D.bl c ∧ if c = true then 1 ≤ sizeLine ∧ dAdd (.lst (lot.map fun a => D.int (up b a))) (.lst [.int ((b : Int) + 1)]) G else 0 ≤ sizeLine ∧ dAdd (.lst (lot.map fun a => D.int (up b a))) (.lst []) G := fun G g => by
      refine in_of (.inr rfl) ⟨_, rfl, ?_⟩
      rw [Bool.bne_false, em]
      unfold moved at g
      by_cases c : (b : Int) ∈ lot
      · rw [if_pos c] at g
        rw [if_pos (decide_eq_true c)]
        refine ⟨by decide, sz (by simp; omega), ?_⟩
        rw [dl, List.map_append] at g; exact g
      · rw [if_neg c] at g
        rw [if_neg (by simp [c])]
        refine ⟨by decide, sz (by simp; omega), ?_⟩
        rw [dl, List.map_append] at g; exact g
    have hml : (moved b lot).length ≤ 1000 := by
      unfold moved
      rw [List.length_append, List.length_map]
      split <;> simp <;> omega
    simp only [sSeq, sIf, sFor, sSet, sSetO, sRet, sRetN, sNx, sNo, sEx, sFz, sFq, sFldS, sSub, sApp, sExt, sDput, sDupd, sAsg, sParSS, sParSO, sParOS, sParOO, eV, eO, eC, eBin, eUn, eCall, eCallO', eCallO, eMake, eMeth, eCallR, eIf, eNot, eAnd, eOr, eTup, eLst, eIxO, ePop, eIndex, eD1, eSl, oNo, oIs, aNil, aCons, aStar, tV, uNot, uAnd, uOr, uYes, dI, dIs, DV.isNon, dLen, dTuple, dNeg, dMax2, dMin2, gN, gT, gsN, ownD, putO, putFD, en0, en1, own0, List.map_cons, List.map_nil, List.replicate, List.cons.injEq, Nat.sub_self, Nat.reduceSub, Nat.reduceAdd, Bool.not_true, Bool.not_false,  List.length_cons, List.length_nil, List.getElem?_cons_zero, List.getElem?_cons_succ, List.set_cons_zero, List.set_cons_succ, List.cons_append, List.nil_append, Option.some.injEq, Sl.s.injEq, Sl.o.injEq, Sl.m.injEq, reduceCtorEq, D.int.injEq, D.bl.injEq, D.lst.injEq, D.tup.injEq, D.str.injEq, D.dic.injEq, D.obj.injEq, bne_self_eq_false, Bool.bne_true, Bool.bne_false, ite_true, ite_false, exists_eq_left', exists_eq_left, exists_eq_right, exists_eq', exists_and_left, exists_const, or_false, false_or, and_true, true_and, and_false, false_and, if_true, if_false, Bool.false_eq_true]
    show dIn false (.int (b : Int)) (dt lot) fun z => ∃ c, z = D.bl c ∧ if c = true then 1 ≤ sizeLine ∧ dAdd (.lst (lot.map fun a => D.int (up b a))) (.lst [.int ((b : Int) + 1)]) _ else _
    refine fin _ ?_
    refine ⟨⟨_, rfl, rfl⟩, inTwo L b (1 + v), moved b lot, _, rfl, .inl rfl, ok', by rw [hlen']; exact hmk, hml, ?_⟩
    refine ⟨⟨_, rfl, rfl⟩, L, lot, _, rfl, .inr rfl, ok, lot_ok hlot, by omega, ?_⟩
    have e1 : srt (inTwo L b (1 + v)) (moved b lot) = srt L lot := srt_of (two_total hb) (two_sum hb (lot_ok hlot))
    refine eq_ss sh_srt sh_srt ⟨false, by rw [decide_eq_true e1]; rfl, ?_⟩
    rw [if_neg Bool.false_ne_true]
    refine ⟨⟨_, rfl, rfl⟩, inTwo L b (1 + v), moved b lot, _, rfl, .inl rfl, ok', by rw [hlen']; exact hmk, hml, ?_⟩
    refine ⟨⟨_, rfl, rfl⟩, L, lot, _, rfl, .inr rfl, ok, lot_ok hlot, by omega, ?_⟩
    refine eq_ii.mpr ?_
    refine ⟨false, by rw [decide_eq_true (two_sum hb (lot_ok hlot))]; rfl, ?_⟩
    rw [if_neg Bool.false_ne_true]
    exact hF _ ⟨_, _, rfl, fun l h => hl l (List.mem_cons_of_mem _ h)⟩
end KT

set_option Elab.async false
set_option linter.all false
set_option maxRecDepth 100000
set_option maxHeartbeats 4000000
/-! The pure part: bars put together. -/
namespace KT
open PySem L2 DV
/-- the old bars of a bar of the new ring -/
def sg (n b : Nat) (i : Int) : List Int := if b + 1 = n then (if i = 0 then [0, (b : Int)] else [i]) else (if i < (b : Int) then [i] else if i = (b : Int) then [(b : Int), (b : Int) + 1] else [i + 1])
theorem sg_within {n b : Nat} (hb : b < n) (h4 : 4 ≤ n) {i : Int} (h0 : 0 ≤ i) (h1 : i + 1 < (n : Int)) : ∀ x ∈ sg n b i, 0 ≤ x ∧ x < (n : Int) := fun x hx => by
  unfold sg at hx
  split at hx
  · split at hx
    · rcases List.mem_cons.mp hx with e | hx
      · omega
      · have := List.mem_singleton.mp hx; omega
    · have := List.mem_singleton.mp hx; omega
  · split at hx
    · have := List.mem_singleton.mp hx; omega
    · split at hx
      · rcases List.mem_cons.mp hx with e | hx
        · omega
        · have := List.mem_singleton.mp hx; omega
      · have := List.mem_singleton.mp hx; omega
theorem sg_nodup {n b : Nat} (h4 : 4 ≤ n) {i : Int} : (sg n b i).Nodup := by
  unfold sg
  split
  · split
    · refine List.nodup_cons.mpr ⟨fun h => ?_, by simp⟩
      have := List.mem_singleton.mp h; omega
    · simp
  · split
    · simp
    · split
      · refine List.nodup_cons.mpr ⟨fun h => ?_, by simp⟩
        have := List.mem_singleton.mp h; omega
      · simp
theorem sg_mem {n b : Nat} {i x : Int} : x ∈ sg n b i ↔ (b + 1 = n ∧ ((i = 0 ∧ (x = 0 ∨ x = (b : Int))) ∨ (i ≠ 0 ∧ x = i))) ∨ (b + 1 ≠ n ∧ ((i < (b : Int) ∧ x = i) ∨ (i = (b : Int) ∧ (x = (b : Int) ∨ x = (b : Int) + 1)) ∨ ((b : Int) < i ∧ x = i + 1))) := by
  unfold sg
  by_cases c : b + 1 = n
  · rw [if_pos c]
    by_cases d : i = 0
    · rw [if_pos d, List.mem_cons, List.mem_singleton]; omega
    · rw [if_neg d, List.mem_singleton]; omega
  · rw [if_neg c]
    by_cases d : i < (b : Int)
    · rw [if_pos d, List.mem_singleton]; omega
    · rw [if_neg d]
      by_cases e : i = (b : Int)
      · rw [if_pos e, List.mem_cons, List.mem_singleton]; omega
      · rw [if_neg e, List.mem_singleton]; omega
theorem sg_apart {n b : Nat} (hb : b < n) (h4 : 4 ≤ n) {i j : Int} (hi : 0 ≤ i ∧ i + 1 < (n : Int)) (hj : 0 ≤ j ∧ j + 1 < (n : Int)) (hij : i ≠ j) : ∀ x ∈ sg n b i, x ∉ sg n b j := fun x hx hx2 => by
  rw [sg_mem] at hx hx2
  omega
theorem flat_nodup {f : Int → List Int} : ∀ {lot : List Int}, lot.Nodup → (∀ i ∈ lot, (f i).Nodup) → (∀ i ∈ lot, ∀ j ∈ lot, i ≠ j → ∀ x ∈ f i, x ∉ f j) → (lot.flatMap f).Nodup
  | [], _, _, _ => by simp
  | a :: lot, h, h1, h2 => by
    obtain ⟨n1, n2⟩ := List.nodup_cons.mp h
    rw [List.flatMap_cons]
    refine List.nodup_append.mpr ⟨h1 a List.mem_cons_self, flat_nodup n2 (fun i hi => h1 i (List.mem_cons_of_mem _ hi)) (fun i hi j hj => h2 i (List.mem_cons_of_mem _ hi) j (List.mem_cons_of_mem _ hj)), fun x hx y hy e => ?_⟩
    obtain ⟨j, hj, hy⟩ := List.mem_flatMap.mp hy
    exact h2 a List.mem_cons_self j (List.mem_cons_of_mem _ hj) (fun e2 => n1 (by rw [e2]; exact hj)) x hx (by rw [e]; exact hy)
theorem old_ok {n b : Nat} (hb : b < n) (h4 : 4 ≤ n) {lot : List Int} (h : lotOk (n - 1) lot) : lotOk n (lot.flatMap (sg n b)) := by
  have hr : ∀ i ∈ lot, 0 ≤ i ∧ i + 1 < (n : Int) := fun i hi => by have := h.2 i hi; omega
  refine ⟨flat_nodup h.1 (fun _ _ => sg_nodup h4) fun i hi j hj hij => sg_apart hb h4 (hr i hi) (hr j hj) hij, fun x hx => ?_⟩
  obtain ⟨i, hi, hx⟩ := List.mem_flatMap.mp hx
  exact sg_within hb h4 (hr i hi).1 (hr i hi).2 x hx
theorem sg_val {L : List Int} {b : Nat} (hb : b < L.length) (h4 : 4 ≤ L.length) {i : Int} (h0 : 0 ≤ i) (h1 : i + 1 < (L.length : Int)) : gI (asOne L b) i = lsum L (sg L.length b i) := by
  obtain ⟨k, rfl⟩ : ∃ k : Nat, i = k := ⟨i.toNat, by omega⟩
  unfold sg asOne
  by_cases c : b + 1 = L.length
  · rw [if_pos c, if_pos c]
    cases k with
    | zero =>
      rw [if_pos (show ((0 : Nat) : Int) = 0 from rfl)]
      refine (gI_some (i := 0) (x := gI L (b : Int) + gI L 0) rfl).trans ?_
      simp [lsum]; omega
    | succ k =>
      rw [if_neg (by omega)]
      refine (gI_some (i := k + 1) (x := gI L ((k + 1 : Nat) : Int)) ?_).trans (by simp [lsum])
      rw [List.getElem?_cons_succ, List.getElem?_take, if_pos (by omega), List.getElem?_drop, Nat.add_comm 1 k, some_gI (by omega)]
  · rw [if_neg c, if_neg c]
    by_cases d : k < b
    · rw [if_pos (by omega)]
      refine (gI_some (x := gI L (k : Int)) ?_).trans (by simp [lsum])
      rw [List.getElem?_append_left (by rw [List.length_take]; omega), List.getElem?_take, if_pos d, some_gI (by omega)]
    · rw [if_neg (by omega)]
      by_cases e : k = b
      · subst e
        rw [if_pos rfl]
        refine (gI_some (x := gI L (k : Int) + gI L ((k : Int) + 1)) ?_).trans (by simp [lsum])
        rw [List.getElem?_append_right (by rw [List.length_take]; omega), List.length_take, Nat.min_eq_left (by omega), Nat.sub_self]; rfl
      · rw [if_neg (by omega)]
        refine (gI_some (x := gI L ((k : Int) + 1)) ?_).trans (by simp [lsum])
        rw [List.getElem?_append_right (by rw [List.length_take]; omega), List.length_take, Nat.min_eq_left (by omega)]
        have e2 : k - b = (k - b - 1) + 1 := by omega
        rw [e2, List.getElem?_cons_succ, List.getElem?_drop]
        have e3 : b + 2 + (k - b - 1) = k + 1 := by omega
        rw [e3, some_gI (by omega)]; rfl
theorem old_sum {L : List Int} {b : Nat} (hb : b < L.length) (h4 : 4 ≤ L.length) : ∀ {lot : List Int}, within (L.length - 1) lot → lsum (asOne L b) lot = lsum L (lot.flatMap (sg L.length b))
  | [], _ => rfl
  | a :: lot, h => by
    have ha := h a List.mem_cons_self
    have ih := old_sum hb h4 (lot := lot) fun c hc => h c (List.mem_cons_of_mem _ hc)
    have e1 : lsum (asOne L b) (a :: lot) = gI (asOne L b) a + lsum (asOne L b) lot := by simp [lsum]
    have e2 : ∀ A B : List Int, lsum L (A ++ B) = lsum L A + lsum L B := fun A B => by simp [lsum]
    rw [e1, ih, List.flatMap_cons, e2, sg_val hb h4 ha.1 (by omega)]
theorem one_perm {L : List Int} {b : Nat} (hb : b < L.length) (h4 : 4 ≤ L.length) : ∃ x y rest, L.Perm (x :: y :: rest) ∧ (asOne L b).Perm ((x + y) :: rest) := by
  unfold asOne
  by_cases c : b + 1 = L.length
  · rw [if_pos c]
    refine ⟨gI L (b : Int), gI L 0, (L.drop 1).take (b - 1), ?_, List.Perm.refl _⟩
    have e : L = gI L 0 :: ((L.drop 1).take (b - 1) ++ [gI L (b : Int)]) := by
      refine List.ext_getElem? fun i => ?_
      cases i with
      | zero =>
        have := some_gI (L := L) (i := 0) (by omega)
        rw [this]; rfl
      | succ i =>
        rw [List.getElem?_cons_succ]
        by_cases d : i < b - 1
        · rw [List.getElem?_append_left (by rw [List.length_take, List.length_drop]; omega), List.getElem?_take, if_pos d, List.getElem?_drop, Nat.add_comm]
        · rw [List.getElem?_append_right (by rw [List.length_take, List.length_drop]; omega), List.length_take, List.length_drop]
          by_cases f : i + 1 = b
          · have e2 : i - min (b - 1) (L.length - 1) = 0 := by omega
            rw [e2, f, some_gI hb]; rfl
          · rw [List.getElem?_eq_none (by omega), List.getElem?_eq_none (by simp; omega)]
    have h := List.perm_append_singleton (gI L (b : Int)) ((L.drop 1).take (b - 1))
    have h2 := (h.cons (gI L 0)).trans (List.Perm.swap _ _ _)
    rw [← e] at h2; exact h2
  · rw [if_neg c]
    refine ⟨gI L (b : Int), gI L ((b : Int) + 1), L.take b ++ L.drop (b + 2), ?_, List.perm_middle⟩
    have e : L = L.take b ++ gI L (b : Int) :: gI L ((b : Int) + 1) :: L.drop (b + 2) := by
      have e0 : ((b : Int) + 1) = ((b + 1 : Nat) : Int) := by omega
      rw [e0, gI_nat hb, gI_nat (by omega : b + 1 < L.length), ← List.drop_eq_getElem_cons, ← List.drop_eq_getElem_cons, List.take_append_drop]
    have h1 : (L.take b ++ gI L (b : Int) :: gI L ((b : Int) + 1) :: L.drop (b + 2)).Perm (gI L (b : Int) :: (L.take b ++ gI L ((b : Int) + 1) :: L.drop (b + 2))) := List.perm_middle
    have h2 := h1.trans (List.perm_middle.cons _)
    rw [← e] at h2; exact h2
theorem one_total {L : List Int} {b : Nat} (hb : b < L.length) (h4 : 4 ≤ L.length) : (asOne L b).sum = L.sum := by
  obtain ⟨x, y, rest, h1, h2⟩ := one_perm hb h4
  rw [sum_perm h1, sum_perm h2]
  simp only [List.sum_cons]; omega
theorem one_closes {L : List Int} {b : Nat} (ok : okL L) (ok' : okL (asOne L b)) (hb : b < L.length) (h4 : 4 ≤ L.length) (h : closesB (asOne L b) = true) : closesB L = true := by
  have ht := one_total hb h4
  obtain ⟨x, y, rest, h1, h2⟩ := one_perm hb h4
  unfold closesB at h ⊢
  have h := of_decide_eq_true h
  refine decide_eq_true ?_
  rw [ht] at h
  have hm := mx_mem (fun z hz => (ok.b z hz).1) ok.ne
  have hx := (ok.b x (h1.mem_iff.mpr List.mem_cons_self)).1
  have hy := (ok.b y (h1.mem_iff.mpr (List.mem_cons_of_mem _ List.mem_cons_self))).1
  have hxy : x + y ≤ mx (asOne L b) := mx_le (h2.mem_iff.mpr List.mem_cons_self)
  have : mx L ≤ mx (asOne L b) := by
    generalize mx L = m at hm
    rcases List.mem_cons.mp (h1.mem_iff.mp hm) with e | hm
    · omega
    · rcases List.mem_cons.mp hm with e | hm
      · omega
      · exact mx_le (h2.mem_iff.mpr (List.mem_cons_of_mem _ hm))
  omega
theorem one_clear {L : List Int} {b : Nat} (hb : b < L.length) (h4 : 4 ≤ L.length) (h : clearB L = true) : clearB (asOne L b) = true := by
  have ht := one_total hb h4
  obtain ⟨x, y, rest, h1, h2⟩ := one_perm hb h4
  unfold clearB at h ⊢
  rw [ht]
  rw [Bool.or_eq_true] at h ⊢
  rcases h with h | h
  · exact .inl h
  · right
    rw [Bool.not_eq_true', decide_eq_false_iff_not] at h ⊢
    exact fun q => h ((sums_perm h1).mpr (sums_two ((sums_perm h2).mp q)))
end KT

set_option Elab.async false
set_option linter.all false
set_option maxRecDepth 100000
set_option maxHeartbeats 4000000
/-! The pure part: bars put together, the walk. -/
namespace KT
open PySem L2 DV
def ones (n : Nat) : List D := (rgI n).map fun x => dl [x]
def segD (n b : Nat) : List D := (rgI (n - 1)).map fun i => dl (sg n b i)
def pr (n b : Nat) : List Int := if b + 1 = n then [0, (b : Int)] else [(b : Int), (b : Int) + 1]
theorem rgI_get {n k : Nat} (h : k < n) : (rgI n)[k]? = some (k : Int) := by
  unfold rgI
  rw [List.getElem?_map, List.getElem?_range h]; rfl
theorem rgI_out {n k : Nat} (h : n ≤ k) : (rgI n)[k]? = none := List.getElem?_eq_none (by rw [rgI_len]; exact h)
theorem ones_get {n k : Nat} (h : k < n) : (ones n)[k]? = some (dl [(k : Int)]) := by
  unfold ones; rw [List.getElem?_map, rgI_get h]; rfl
theorem ones_len {n : Nat} : (ones n).length = n := by unfold ones; rw [List.length_map, rgI_len]
theorem seg_get {n b k : Nat} (h : k + 1 < n) : (segD n b)[k]? = some (dl (sg n b (k : Int))) := by
  unfold segD; rw [List.getElem?_map, rgI_get (by omega)]; rfl
theorem seg_len {n b : Nat} : (segD n b).length = n - 1 := by unfold segD; rw [List.length_map, rgI_len]
theorem atI_get {l : List D} {k : Nat} {v : D} (h : l[k]? = some v) : atI l (k : Int) = some v := by
  have hk : k < l.length := (List.getElem?_eq_some_iff.mp h).1
  rw [atI_nat l k hk]
  rw [List.getElem?_eq_getElem hk] at h
  exact h
theorem sg_len {n b : Nat} (i : Int) : (sg n b i).length ≤ 2 := by
  unfold sg
  split
  · split <;> simp
  · split
    · simp
    · split <;> simp
theorem flat_len {n b : Nat} : ∀ lot : List Int, (lot.flatMap (sg n b)).length ≤ 2 * lot.length
  | [] => by simp
  | a :: lot => by
    have := flat_len (n := n) (b := b) lot
    have := sg_len (n := n) (b := b) a
    rw [List.flatMap_cons, List.length_append, List.length_cons]; omega
theorem newsA {n b : Nat} (hb : b + 1 < n) : ((ones n).set b (dl (pr n b))).eraseIdx (b + 1) = segD n b := by
  refine List.ext_getElem? fun k => ?_
  have hp : pr n b = [(b : Int), (b : Int) + 1] := by unfold pr; rw [if_neg (by omega)]
  by_cases h : k + 1 < n
  · rw [seg_get h, List.getElem?_eraseIdx]
    have hsg : sg n b (k : Int) = (if (k : Int) < (b : Int) then [(k : Int)] else if (k : Int) = (b : Int) then [(b : Int), (b : Int) + 1] else [(k : Int) + 1]) := by unfold sg; rw [if_neg (by omega)]
    rw [hsg]
    by_cases c : k < b + 1
    · rw [if_pos c, List.getElem?_set]
      by_cases d : b = k
      · subst d
        rw [if_pos rfl, if_pos (by rw [ones_len]; omega), if_neg (by omega), if_pos rfl, hp]
      · rw [if_neg d, ones_get (by omega), if_pos (by omega)]
    · rw [if_neg c, List.getElem?_set, if_neg (by omega), ones_get (by omega), if_neg (by omega), if_neg (by omega)]; rfl
  · rw [List.getElem?_eq_none (l := segD n b) (by rw [seg_len]; omega), List.getElem?_eq_none]
    rw [List.length_eraseIdx_of_lt (by rw [List.length_set, ones_len]; omega), List.length_set, ones_len]; omega
theorem newsB {n b : Nat} (hb : b + 1 = n) (h4 : 4 ≤ n) : dl (pr n b) :: (((ones n).set b (dl (pr n b))).drop 1).take (b - 1) = segD n b := by
  refine List.ext_getElem? fun k => ?_
  have hp : pr n b = [0, (b : Int)] := by unfold pr; rw [if_pos hb]
  by_cases h : k + 1 < n
  · rw [seg_get h]
    unfold sg
    rw [if_pos hb]
    cases k with
    | zero => rw [if_pos (show ((0 : Nat) : Int) = 0 from rfl), hp]; rfl
    | succ k =>
      rw [if_neg (by omega), List.getElem?_cons_succ, List.getElem?_take, if_pos (by omega), List.getElem?_drop, List.getElem?_set, if_neg (by omega), Nat.add_comm, ones_get (by omega)]
  · rw [List.getElem?_eq_none (l := segD n b) (by rw [seg_len]; omega), List.getElem?_eq_none]
    rw [List.length_cons, List.length_take, List.length_drop, List.length_set, ones_len]; omega
def tail15 (K : PySem.W.Frag) : DS := (sSeq (sSet 6 (eMeth (He.ga K "Ring") "as_one" (sp_Ring_as_one K) (eV 2) (aCons (eV 4) aNil))) (sSeq (sFor (iLT (eCall (sp__law_lots K) (aCons (eBin dSub (eV 3) (eC (.int 1))) aNil))) (gN 7) (sSeq (sSetO 8 (eLst aNil)) (sSeq (sFor (iLT (eV 7)) (gN 9) (sExt 8 (eBin dIx (eV 5) (eV 9)))) (sFz 8 (sIf (uOr (tV (eBin (dEq true) (eMeth (He.ga K "Ring") "sort_of" (sp_Ring_sort_of K) (eV 6) (aCons (eV 7) aNil)) (eCall (sp__law_sort K) (aCons (eV 1) (aCons (eV 8) aNil))))) (tV (eBin (dEq true) (eMeth (He.ga K "Ring") "length_of" (sp_Ring_length_of K) (eV 6) (aCons (eV 7) aNil)) (eMeth (He.ga K "Ring") "length_of" (sp_Ring_length_of K) (eV 2) (aCons (eV 8) aNil))))) (sRet (eC (.bl false))) sNx))))) (sSeq (sIf (uOr (uAnd (tV (eBin (dIs false) (eUn (dFld (He.ga K "Ring") "closes") (eO 6)) (eC (.bl true)))) (tV (eBin (dIs false) (eUn (dFld (He.ga K "Ring") "closes") (eO 2)) (eC (.bl false))))) (uAnd (tV (eBin (dIs false) (eUn (dFld (He.ga K "Ring") "is_clear") (eO 2)) (eC (.bl true)))) (tV (eBin (dIs false) (eUn (dFld (He.ga K "Ring") "is_clear") (eO 6)) (eC (.bl false)))))) (sRet (eC (.bl false))) sNx) (sRet (eBin (dEq false) (eUn (dFld (He.ga K "Ring") "total") (eO 6)) (eUn (dFld (He.ga K "Ring") "total") (eO 2)))))))
theorem together_eq (K : PySem.W.Frag) : B__law_together_right K = (sSeq (sParSS 2 3 (eMake (He.ga K "Ring") (sp_Ring_init K) (aCons (eV 1) aNil)) (eUn dLen (eO 1))) (sSeq (sSet 4 (eCallO' (sp__law_draw K) 0 (aCons (eV 3) aNil))) (sSeq (sSetO 5 (eLc (iR1 (eV 3)) [9] (gN 9) uYes (eLst (aCons (eV 9) aNil)))) (sSeq (sSub 5 (eUn dSorted (eLst (aCons (eV 4) (aCons (eBin dMod (eUn dInt (eBin dAdd (eV 4) (eC (.int 1)))) (eV 3)) aNil)))) (eV 4)) (sSeq (sIf (tV (eBin (dEq false) (eV 4) (eBin dSub (eV 3) (eC (.int 1))))) (sFz 5 (sSet 5 (eBin dAdd (eLst (aCons (eBin dIx (eV 5) (eV 4)) aNil)) (eSl dSlL (eV 5) (oIs (eC (.int 1))) (oIs (eV 4)))))) (sEx (ePop 5 (eBin dAdd (eV 4) (eC (.int 1)))))) (sFq 5 (tail15 K))))))) := rfl
theorem tail15_ok {K : PySem.W.Frag} {L : List Int} {b : Nat} {d1 : D} (ok : okL L) (hb : b < L.length) (h4 : 4 ≤ L.length) (hx : ∀ x ∈ L, x ≤ 500000) {Po : D → D → Prop} {R : DX → D → Prop} (p : Po (.bl true) d1) :
    tail15 K [.m d1, .s (dl L), .s (ringD K L), .s (.int L.length), .s (.int (b : Int)), .s (.lst (segD L.length b)), .e, .e, .e, .e] { nx := fun ρ => ∃ d1, own0 ρ d1 ∧ Po .non d1, rt := fun d ρ => ∃ d1, own0 ρ d1 ∧ Po d d1, xe := fun y ρ => ∃ d1, own0 ρ d1 ∧ R y d1 } := by
  have h8 := ok.hi
  have ok' := asOne_ok ok hb h4 hx
  have hlen' : (asOne L b).length = L.length - 1 := asOne_len hb h4
  simp only [tail15, sSeq, sIf, sFor, sSet, sSetO, sRet, sRetN, sNx, sNo, sEx, sFz, sFq, sFldS, sSub, sApp, sExt, sDput, sDupd, sAsg, sParSS, sParSO, sParOS, sParOO, eV, eO, eC, eBin, eUn, eCall, eCallO', eCallO, eMake, eMeth, eCallR, eIf, eNot, eAnd, eOr, eTup, eLst, eIxO, ePop, eIndex, eD1, eSl, oNo, oIs, aNil, aCons, aStar, tV, uNot, uAnd, uOr, uYes, dI, dIs, DV.isNon, dLen, dTuple, dNeg, dMax2, dMin2, gN, gT, gsN, ownD, putO, putFD, en0, en1, own0, List.map_cons, List.map_nil, List.replicate, List.cons.injEq, Nat.sub_self, Nat.reduceSub, Nat.reduceAdd, Bool.not_true, Bool.not_false,  List.length_cons, List.length_nil, List.getElem?_cons_zero, List.getElem?_cons_succ, List.set_cons_zero, List.set_cons_succ, List.cons_append, List.nil_append, Option.some.injEq, Sl.s.injEq, Sl.o.injEq, Sl.m.injEq, reduceCtorEq, D.int.injEq, D.bl.injEq, D.lst.injEq, D.tup.injEq, D.str.injEq, D.dic.injEq, D.obj.injEq, bne_self_eq_false, Bool.bne_true, Bool.bne_false, ite_true, ite_false, exists_eq_left', exists_eq_left, exists_eq_right, exists_eq', exists_and_left, exists_const, or_false, false_or, and_true, true_and, and_false, false_and, if_true, if_false, Bool.false_eq_true]
  refine ⟨⟨_, rfl, rfl⟩, L, b, rfl, ok, h4, hx, hb, ?_⟩
  unfold iLT
  simp only [sSeq, sIf, sFor, sSet, sSetO, sRet, sRetN, sNx, sNo, sEx, sFz, sFq, sFldS, sSub, sApp, sExt, sDput, sDupd, sAsg, sParSS, sParSO, sParOS, sParOO, eV, eO, eC, eBin, eUn, eCall, eCallO', eCallO, eMake, eMeth, eCallR, eIf, eNot, eAnd, eOr, eTup, eLst, eIxO, ePop, eIndex, eD1, eSl, oNo, oIs, aNil, aCons, aStar, tV, uNot, uAnd, uOr, uYes, dI, dIs, DV.isNon, dLen, dTuple, dNeg, dMax2, dMin2, gN, gT, gsN, ownD, putO, putFD, en0, en1, own0, List.map_cons, List.map_nil, List.replicate, List.cons.injEq, Nat.sub_self, Nat.reduceSub, Nat.reduceAdd, Bool.not_true, Bool.not_false,  List.length_cons, List.length_nil, List.getElem?_cons_zero, List.getElem?_cons_succ, List.set_cons_zero, List.set_cons_succ, List.cons_append, List.nil_append, Option.some.injEq, Sl.s.injEq, Sl.o.injEq, Sl.m.injEq, reduceCtorEq, D.int.injEq, D.bl.injEq, D.lst.injEq, D.tup.injEq, D.str.injEq, D.dic.injEq, D.obj.injEq, bne_self_eq_false, Bool.bne_true, Bool.bne_false, ite_true, ite_false, exists_eq_left', exists_eq_left, exists_eq_right, exists_eq', exists_and_left, exists_const, or_false, false_or, and_true, true_and, and_false, false_and, if_true, if_false, Bool.false_eq_true]
  have en : ((L.length : Int) - 1) = ((L.length - 1 : Nat) : Int) := by omega
  rw [en]
  refine ⟨L.length - 1, rfl, by omega, fun Ls hB => ⟨_, .inl rfl, ?_⟩⟩
  refine forD_ind (fun ys ρ => ∃ z7 z8 z9 : Sl, ρ = [.m d1, .s (dl L), .s (ringD K L), .s (.int L.length), .s (.int (b : Int)), .s (.lst (segD L.length b)), .s (ringD K (asOne L b)), z7, z8, z9] ∧ ∀ lot ∈ ys, Lot (L.length - 1) lot) ?_ ?_ ⟨.e, .e, .e, rfl, fun lot h => ((hB.mem lot).mp h).1⟩
  · rintro ρ ⟨z7, z8, z9, rfl, _⟩
    have hcl := one_closes ok ok' hb h4
    have hck := one_clear (L := L) hb h4
    have ht := one_total hb h4
    simp only [sSeq, sIf, sFor, sSet, sSetO, sRet, sRetN, sNx, sNo, sEx, sFz, sFq, sFldS, sSub, sApp, sExt, sDput, sDupd, sAsg, sParSS, sParSO, sParOS, sParOO, eV, eO, eC, eBin, eUn, eCall, eCallO', eCallO, eMake, eMeth, eCallR, eIf, eNot, eAnd, eOr, eTup, eLst, eIxO, ePop, eIndex, eD1, eSl, oNo, oIs, aNil, aCons, aStar, tV, uNot, uAnd, uOr, uYes, dI, dIs, DV.isNon, dLen, dTuple, dNeg, dMax2, dMin2, gN, gT, gsN, ownD, putO, putFD, en0, en1, own0, List.map_cons, List.map_nil, List.replicate, List.cons.injEq, Nat.sub_self, Nat.reduceSub, Nat.reduceAdd, Bool.not_true, Bool.not_false,  List.length_cons, List.length_nil, List.getElem?_cons_zero, List.getElem?_cons_succ, List.set_cons_zero, List.set_cons_succ, List.cons_append, List.nil_append, Option.some.injEq, Sl.s.injEq, Sl.o.injEq, Sl.m.injEq, reduceCtorEq, D.int.injEq, D.bl.injEq, D.lst.injEq, D.tup.injEq, D.str.injEq, D.dic.injEq, D.obj.injEq, bne_self_eq_false, Bool.bne_true, Bool.bne_false, ite_true, ite_false, exists_eq_left', exists_eq_left, exists_eq_right, exists_eq', exists_and_left, exists_const, or_false, false_or, and_true, true_and, and_false, false_and, if_true, if_false, Bool.false_eq_true, fld_c, fld_k, fld_t, dIs]
    have key : ∀ G : D → Prop, G (.bl true) → dEq false (.int (asOne L b).sum) (.int L.sum) G := fun G g => eq_ii.mpr (by rw [decide_eq_true ht]; exact g)
    cases c1 : closesB (asOne L b) <;> cases c2 : closesB L <;> cases c3 : clearB L <;> cases c4 : clearB (asOne L b) <;> first
      | exact absurd ((hcl c1).symm.trans c2) (by decide)
      | exact absurd ((hck c3).symm.trans c4) (by decide)
      | (simp only [show (true == true) = true from rfl, show (false == true) = false from rfl, show (true == false) = false from rfl, show (false == false) = true from rfl, if_true, Bool.false_eq_true, if_false]; refine key _ ?_; exact ⟨d1, ⟨0, rfl⟩, p⟩)
  · rintro lot ys ρ ⟨z7, z8, z9, rfl, hl⟩ F hF
    have hlot := hl lot List.mem_cons_self
    have hl8 := lot_len (by omega) hlot
    have hold := old_ok hb h4 (lot_ok hlot)
    have hol := flat_len (n := L.length) (b := b) lot
    simp only [sSeq, sIf, sFor, sSet, sSetO, sRet, sRetN, sNx, sNo, sEx, sFz, sFq, sFldS, sSub, sApp, sExt, sDput, sDupd, sAsg, sParSS, sParSO, sParOS, sParOO, eV, eO, eC, eBin, eUn, eCall, eCallO', eCallO, eMake, eMeth, eCallR, eIf, eNot, eAnd, eOr, eTup, eLst, eIxO, ePop, eIndex, eD1, eSl, oNo, oIs, aNil, aCons, aStar, tV, uNot, uAnd, uOr, uYes, dI, dIs, DV.isNon, dLen, dTuple, dNeg, dMax2, dMin2, gN, gT, gsN, ownD, putO, putFD, en0, en1, own0, List.map_cons, List.map_nil, List.replicate, List.cons.injEq, Nat.sub_self, Nat.reduceSub, Nat.reduceAdd, Bool.not_true, Bool.not_false,  List.length_cons, List.length_nil, List.getElem?_cons_zero, List.getElem?_cons_succ, List.set_cons_zero, List.set_cons_succ, List.cons_append, List.nil_append, Option.some.injEq, Sl.s.injEq, Sl.o.injEq, Sl.m.injEq, reduceCtorEq, D.int.injEq, D.bl.injEq, D.lst.injEq, D.tup.injEq, D.str.injEq, D.dic.injEq, D.obj.injEq, bne_self_eq_false, Bool.bne_true, Bool.bne_false, ite_true, ite_false, exists_eq_left', exists_eq_left, exists_eq_right, exists_eq', exists_and_left, exists_const, or_false, false_or, and_true, true_and, and_false, false_and, if_true, if_false, Bool.false_eq_true]
    refine ⟨by decide, ?_⟩
    refine forD_ind (fun as ρ => ∃ (done : List Int) (z9' : Sl), lot = done ++ as ∧ ρ = [.m d1, .s (dl L), .s (ringD K L), .s (.int L.length), .s (.int (b : Int)), .s (.lst (segD L.length b)), .s (ringD K (asOne L b)), .s (dt lot), .o (dl (done.flatMap (sg L.length b))), z9']) ?_ ?_ ⟨[], z9, rfl, rfl⟩
    · rintro ρ ⟨done, z9', e, rfl⟩
      rw [List.append_nil] at e
      subst e
      simp only [sSeq, sIf, sFor, sSet, sSetO, sRet, sRetN, sNx, sNo, sEx, sFz, sFq, sFldS, sSub, sApp, sExt, sDput, sDupd, sAsg, sParSS, sParSO, sParOS, sParOO, eV, eO, eC, eBin, eUn, eCall, eCallO', eCallO, eMake, eMeth, eCallR, eIf, eNot, eAnd, eOr, eTup, eLst, eIxO, ePop, eIndex, eD1, eSl, oNo, oIs, aNil, aCons, aStar, tV, uNot, uAnd, uOr, uYes, dI, dIs, DV.isNon, dLen, dTuple, dNeg, dMax2, dMin2, gN, gT, gsN, ownD, putO, putFD, en0, en1, own0, List.map_cons, List.map_nil, List.replicate, List.cons.injEq, Nat.sub_self, Nat.reduceSub, Nat.reduceAdd, Bool.not_true, Bool.not_false,  List.length_cons, List.length_nil, List.getElem?_cons_zero, List.getElem?_cons_succ, List.set_cons_zero, List.set_cons_succ, List.cons_append, List.nil_append, Option.some.injEq, Sl.s.injEq, Sl.o.injEq, Sl.m.injEq, reduceCtorEq, D.int.injEq, D.bl.injEq, D.lst.injEq, D.tup.injEq, D.str.injEq, D.dic.injEq, D.obj.injEq, bne_self_eq_false, Bool.bne_true, Bool.bne_false, ite_true, ite_false, exists_eq_left', exists_eq_left, exists_eq_right, exists_eq', exists_and_left, exists_const, or_false, false_or, and_true, true_and, and_false, false_and, if_true, if_false, Bool.false_eq_true]
      refine ⟨⟨_, rfl, rfl⟩, asOne L b, lot, _, rfl, .inr rfl, ok', by rw [hlen']; exact lot_ok hlot, by omega, ?_⟩
      refine ⟨L, _, _, rfl, .inl rfl, ok, hold, by omega, ?_⟩
      have es := old_sum hb h4 hlot.2
      have e1 : srt (asOne L b) lot = srt L (lot.flatMap (sg L.length b)) := srt_of (one_total hb h4) es
      refine eq_ss sh_srt sh_srt ⟨false, by rw [decide_eq_true e1]; rfl, ?_⟩
      rw [if_neg Bool.false_ne_true]
      refine ⟨⟨_, rfl, rfl⟩, asOne L b, lot, _, rfl, .inr rfl, ok', by rw [hlen']; exact lot_ok hlot, by omega, ?_⟩
      refine ⟨⟨_, rfl, rfl⟩, L, _, _, rfl, .inl rfl, ok, hold, by omega, ?_⟩
      refine eq_ii.mpr ⟨false, by rw [decide_eq_true es]; rfl, ?_⟩
      rw [if_neg Bool.false_ne_true]
      exact hF _ ⟨_, _, _, rfl, fun l h => hl l (List.mem_cons_of_mem _ h)⟩
    · rintro a as ρ ⟨done, z9', e, rfl⟩ F2 hF2
      have ha := hlot.2 a (by rw [e]; simp)
      obtain ⟨i, rfl⟩ : ∃ i : Nat, a = i := ⟨a.toNat, by omega⟩
      have hdl := flat_len (n := L.length) (b := b) done
      have hd8 : done.length ≤ 8 := by rw [e] at hl8; simp at hl8; omega
      have hs2 := sg_len (n := L.length) (b := b) (i : Int)
      simp only [sSeq, sIf, sFor, sSet, sSetO, sRet, sRetN, sNx, sNo, sEx, sFz, sFq, sFldS, sSub, sApp, sExt, sDput, sDupd, sAsg, sParSS, sParSO, sParOS, sParOO, eV, eO, eC, eBin, eUn, eCall, eCallO', eCallO, eMake, eMeth, eCallR, eIf, eNot, eAnd, eOr, eTup, eLst, eIxO, ePop, eIndex, eD1, eSl, oNo, oIs, aNil, aCons, aStar, tV, uNot, uAnd, uOr, uYes, dI, dIs, DV.isNon, dLen, dTuple, dNeg, dMax2, dMin2, gN, gT, gsN, ownD, putO, putFD, en0, en1, own0, List.map_cons, List.map_nil, List.replicate, List.cons.injEq, Nat.sub_self, Nat.reduceSub, Nat.reduceAdd, Bool.not_true, Bool.not_false,  List.length_cons, List.length_nil, List.getElem?_cons_zero, List.getElem?_cons_succ, List.set_cons_zero, List.set_cons_succ, List.cons_append, List.nil_append, Option.some.injEq, Sl.s.injEq, Sl.o.injEq, Sl.m.injEq, reduceCtorEq, D.int.injEq, D.bl.injEq, D.lst.injEq, D.tup.injEq, D.str.injEq, D.dic.injEq, D.obj.injEq, bne_self_eq_false, Bool.bne_true, Bool.bne_false, ite_true, ite_false, exists_eq_left', exists_eq_left, exists_eq_right, exists_eq', exists_and_left, exists_const, or_false, false_or, and_true, true_and, and_false, false_and, if_true, if_false, Bool.false_eq_true]
      refine ⟨_, atI_get (seg_get (by omega)), ?_⟩
      simp only [sSeq, sIf, sFor, sSet, sSetO, sRet, sRetN, sNx, sNo, sEx, sFz, sFq, sFldS, sSub, sApp, sExt, sDput, sDupd, sAsg, sParSS, sParSO, sParOS, sParOO, eV, eO, eC, eBin, eUn, eCall, eCallO', eCallO, eMake, eMeth, eCallR, eIf, eNot, eAnd, eOr, eTup, eLst, eIxO, ePop, eIndex, eD1, eSl, oNo, oIs, aNil, aCons, aStar, tV, uNot, uAnd, uOr, uYes, dI, dIs, DV.isNon, dLen, dTuple, dNeg, dMax2, dMin2, gN, gT, gsN, ownD, putO, putFD, en0, en1, own0, List.map_cons, List.map_nil, List.replicate, List.cons.injEq, Nat.sub_self, Nat.reduceSub, Nat.reduceAdd, Bool.not_true, Bool.not_false,  List.length_cons, List.length_nil, List.getElem?_cons_zero, List.getElem?_cons_succ, List.set_cons_zero, List.set_cons_succ, List.cons_append, List.nil_append, Option.some.injEq, Sl.s.injEq, Sl.o.injEq, Sl.m.injEq, reduceCtorEq, D.int.injEq, D.bl.injEq, D.lst.injEq, D.tup.injEq, D.str.injEq, D.dic.injEq, D.obj.injEq, bne_self_eq_false, Bool.bne_true, Bool.bne_false, ite_true, ite_false, exists_eq_left', exists_eq_left, exists_eq_right, exists_eq', exists_and_left, exists_const, or_false, false_or, and_true, true_and, and_false, false_and, if_true, if_false, Bool.false_eq_true, List.length_map]
      refine ⟨sz (by omega), hF2 _ ⟨done ++ [(i : Int)], .s (.int (i : Int)), by rw [e]; simp, ?_⟩⟩
      simp
theorem len__law_together_right (K : PySem.W.Frag) : ∀ ds P R, sp__law_together_right K ds P R → ds.length = 2 := fun _ _ _ ⟨_, _, _, e, _⟩ => by rw [e]; rfl
theorem pr_sorted {n b : Nat} (hb : b < n) (h4 : 4 ≤ n) {ns : List Int} (hp : ns.Perm [(b : Int), ((b : Int) + 1) % (n : Int)]) (hs : ns.Pairwise (· ≤ ·)) : ns = pr n b := by
  unfold pr
  by_cases c : b + 1 = n
  · rw [if_pos c]
    have e : ((b : Int) + 1) % (n : Int) = 0 := by
      have : ((b : Int) + 1) = (n : Int) := by omega
      rw [this, Int.emod_self]
    rw [e] at hp
    exact perm_sorted_eq (hp.trans (List.Perm.swap _ _ _)) hs (by simp)
  · rw [if_neg c]
    have e : ((b : Int) + 1) % (n : Int) = (b : Int) + 1 := Int.emod_eq_of_lt (by omega) (by omega)
    rw [e] at hp
    exact perm_sorted_eq hp hs (by simp; omega)
theorem pu__law_together_right (K : PySem.W.Frag) : ∀ d0 ds (Po : D → D → Prop) (R : DX → D → Prop), sp__law_together_right K (d0 :: ds) Po R → B__law_together_right K (en1 ["_law_pen_here", "_law_lengths_here", "_law_ring", "_law_many", "_law_bar", "_law_news", "_law_new", "_law_lot", "_law_old", "_law_at"] d0 ds) { nx := fun ρ => ∃ d1, own0 ρ d1 ∧ Po .non d1, rt := fun d ρ => ∃ d1, own0 ρ d1 ∧ Po d d1, xe := fun y ρ => ∃ d1, own0 ρ d1 ∧ R y d1 } := by
  rintro d0 ds Po R ⟨k, d0', L, e, hp, hk, ok, h4, hx, p⟩
  cases e
  have h8 := ok.hi
  rw [together_eq]
  simp only [sSeq, sIf, sFor, sSet, sSetO, sRet, sRetN, sNx, sNo, sEx, sFz, sFq, sFldS, sSub, sApp, sExt, sDput, sDupd, sAsg, sParSS, sParSO, sParOS, sParOO, eV, eO, eC, eBin, eUn, eCall, eCallO', eCallO, eMake, eMeth, eCallR, eIf, eNot, eAnd, eOr, eTup, eLst, eIxO, ePop, eIndex, eD1, eSl, oNo, oIs, aNil, aCons, aStar, tV, uNot, uAnd, uOr, uYes, dI, dIs, DV.isNon, dLen, dTuple, dNeg, dMax2, dMin2, gN, gT, gsN, ownD, putO, putFD, en0, en1, own0, List.map_cons, List.map_nil, List.replicate, List.cons.injEq, Nat.sub_self, Nat.reduceSub, Nat.reduceAdd, Bool.not_true, Bool.not_false,  List.length_cons, List.length_nil, List.getElem?_cons_zero, List.getElem?_cons_succ, List.set_cons_zero, List.set_cons_succ, List.cons_append, List.nil_append, Option.some.injEq, Sl.s.injEq, Sl.o.injEq, Sl.m.injEq, reduceCtorEq, D.int.injEq, D.bl.injEq, D.lst.injEq, D.tup.injEq, D.str.injEq, D.dic.injEq, D.obj.injEq, bne_self_eq_false, Bool.bne_true, Bool.bne_false, ite_true, ite_false, exists_eq_left', exists_eq_left, exists_eq_right, exists_eq', exists_and_left, exists_const, or_false, false_or, and_true, true_and, and_false, false_and, if_true, if_false, Bool.false_eq_true, dLen, List.length_map]
  refine make_ring (.inl rfl) ok ?_
  refine ⟨k, d0, L.length, rfl, hp, by omega, by omega, by omega, fun v d1 hv0 hv1 hp1 => ?_⟩
  obtain ⟨b, rfl⟩ : ∃ b : Nat, v = b := ⟨v.toNat, by omega⟩
  have hb : b < L.length := by omega
  refine eLc_p1 (rgI L.length) D.int (fun a => [.m d1, .s (dl L), .s (ringD K L), .s (.int L.length), .s (.int (b : Int)), .e, .e, .e, .e, .s (.int a)]) (fun a => dl [a]) (fun Q q => iR1_of (by omega) (fun Q q => ⟨_, rfl, q⟩) q) (by simp [quiet]) (fun x _ Q q => q) (fun _ _ => rfl) (fun a ha Q q => ?_) (sz (by rw [rgI_len]; omega)) ?_
  · simp only [sSeq, sIf, sFor, sSet, sSetO, sRet, sRetN, sNx, sNo, sEx, sFz, sFq, sFldS, sSub, sApp, sExt, sDput, sDupd, sAsg, sParSS, sParSO, sParOS, sParOO, eV, eO, eC, eBin, eUn, eCall, eCallO', eCallO, eMake, eMeth, eCallR, eIf, eNot, eAnd, eOr, eTup, eLst, eIxO, ePop, eIndex, eD1, eSl, oNo, oIs, aNil, aCons, aStar, tV, uNot, uAnd, uOr, uYes, dI, dIs, DV.isNon, dLen, dTuple, dNeg, dMax2, dMin2, gN, gT, gsN, ownD, putO, putFD, en0, en1, own0, List.map_cons, List.map_nil, List.replicate, List.cons.injEq, Nat.sub_self, Nat.reduceSub, Nat.reduceAdd, Bool.not_true, Bool.not_false,  List.length_cons, List.length_nil, List.getElem?_cons_zero, List.getElem?_cons_succ, List.set_cons_zero, List.set_cons_succ, List.cons_append, List.nil_append, Option.some.injEq, Sl.s.injEq, Sl.o.injEq, Sl.m.injEq, reduceCtorEq, D.int.injEq, D.bl.injEq, D.lst.injEq, D.tup.injEq, D.str.injEq, D.dic.injEq, D.obj.injEq, bne_self_eq_false, Bool.bne_true, Bool.bne_false, ite_true, ite_false, exists_eq_left', exists_eq_left, exists_eq_right, exists_eq', exists_and_left, exists_const, or_false, false_or, and_true, true_and, and_false, false_and, if_true, if_false, Bool.false_eq_true]
    exact ⟨by decide, q⟩
  have e1 : ((rgI L.length).map fun a => dl [a]) = ones L.length := rfl
  rw [e1]
  simp only [sSeq, sIf, sFor, sSet, sSetO, sRet, sRetN, sNx, sNo, sEx, sFz, sFq, sFldS, sSub, sApp, sExt, sDput, sDupd, sAsg, sParSS, sParSO, sParOS, sParOO, eV, eO, eC, eBin, eUn, eCall, eCallO', eCallO, eMake, eMeth, eCallR, eIf, eNot, eAnd, eOr, eTup, eLst, eIxO, ePop, eIndex, eD1, eSl, oNo, oIs, aNil, aCons, aStar, tV, uNot, uAnd, uOr, uYes, dI, dIs, DV.isNon, dLen, dTuple, dNeg, dMax2, dMin2, gN, gT, gsN, ownD, putO, putFD, en0, en1, own0, List.map_cons, List.map_nil, List.replicate, List.cons.injEq, Nat.sub_self, Nat.reduceSub, Nat.reduceAdd, Bool.not_true, Bool.not_false,  List.length_cons, List.length_nil, List.getElem?_cons_zero, List.getElem?_cons_succ, List.set_cons_zero, List.set_cons_succ, List.cons_append, List.nil_append, Option.some.injEq, Sl.s.injEq, Sl.o.injEq, Sl.m.injEq, reduceCtorEq, D.int.injEq, D.bl.injEq, D.lst.injEq, D.tup.injEq, D.str.injEq, D.dic.injEq, D.obj.injEq, bne_self_eq_false, Bool.bne_true, Bool.bne_false, ite_true, ite_false, exists_eq_left', exists_eq_left, exists_eq_right, exists_eq', exists_and_left, exists_const, or_false, false_or, and_true, true_and, and_false, false_and, if_true, if_false, Bool.false_eq_true, dAdd, dInt_i]
  refine ⟨by omega, by decide, ?_⟩
  refine ⟨[(b : Int), ((b : Int) + 1) % (L.length : Int)], rfl, fun ns' hp1' hs => ?_⟩
  have hns := pr_sorted hb h4 hp1' hs
  subst hns
  have hix : ixN (ones L.length).length (b : Int) = some b := by
    unfold ixN
    rw [ones_len, if_pos (by omega), if_pos (by omega), Int.toNat_natCast]
  have hol : (ones L.length).length = L.length := ones_len
  have hget : ((ones L.length).set b (dl (pr L.length b)))[b]? = some (dl (pr L.length b)) := by rw [List.getElem?_set, if_pos rfl, if_pos (by rw [hol]; exact hb)]
  refine ⟨b, hix, eq_ii.mpr ⟨_, rfl, ?_⟩⟩
  rw [Bool.bne_false]
  by_cases c : b + 1 = L.length
  · rw [if_pos (decide_eq_true (by omega))]
    refine ⟨_, atI_get hget, by decide, ?_⟩
    have ec : ∀ l : List D, l.length = L.length → cutD l (some 1) (some (b : Int)) = (l.drop 1).take (b - 1) := fun l hl => by
      unfold cutD
      have e1 : (some 1 : Option Int) = some ((1 : Nat) : Int) := rfl
      rw [e1, HT.sIx_nat, HT.sIx_nat, hl, Nat.min_eq_left (by omega), Nat.min_eq_left (by omega)]
    simp only [dSlL]
    rw [ec _ (by rw [List.length_set, hol])]
    refine ⟨sz (by rw [List.length_take, List.length_drop, List.length_set, hol]; simp; omega), ?_⟩
    have t := tail15_ok (K := K) (R := R) ok hb h4 hx (p d1 hp1)
    rw [← newsB c h4] at t
    exact t
  · rw [if_neg (by simp; omega)]
    have hix2 : ixN L.length ((b : Int) + 1) = some (b + 1) := by
      unfold ixN
      rw [if_pos (by omega), if_pos (by omega)]
      congr 1
    refine ⟨by omega, by omega, b + 1, by rw [List.length_set, hol]; exact (ixN_seq hix2).1, dl [((b + 1 : Nat) : Int)], by rw [List.getElem?_set, if_neg (by omega), ones_get (by omega)], ?_⟩
    have t := tail15_ok (K := K) (R := R) ok hb h4 hx (p d1 hp1)
    rw [← newsA (by omega)] at t
    exact t
end KT

set_option Elab.async false
set_option linter.all false
set_option maxRecDepth 100000
set_option maxHeartbeats 4000000
/-! The pure part: lengths drawn. -/
namespace KT
open PySem L2 DV
theorem PenOk.mono {a b : Nat} {d : D} (h : PenOk a d) (hab : a ≤ b) : PenOk b d := by
  obtain ⟨c, x, e, h1, h2, h3, h4, h5⟩ := h
  exact ⟨c, x, e, h1, h2, h3, by omega, h5⟩
theorem sum_lo : ∀ {L : List Int}, (∀ x ∈ L, 1 ≤ x) → (L.length : Int) ≤ L.sum
  | [], _ => by simp
  | a :: L, h => by
    have h1 := h a List.mem_cons_self
    have h2 := sum_lo (L := L) fun x hx => h x (List.mem_cons_of_mem _ hx)
    rw [List.length_cons, List.sum_cons]; omega
theorem sum_hi {m : Int} : ∀ {L : List Int}, (∀ x ∈ L, x ≤ m) → L.sum ≤ m * L.length
  | [], _ => by simp
  | a :: L, h => by
    have h1 := h a List.mem_cons_self
    have h2 := sum_hi (L := L) fun x hx => h x (List.mem_cons_of_mem _ hx)
    rw [List.length_cons, List.sum_cons]
    have e : m * ((L.length + 1 : Nat) : Int) = m * (L.length : Int) + m := by
      have : ((L.length + 1 : Nat) : Int) = (L.length : Int) + 1 := by omega
      rw [this, Int.mul_add, Int.mul_one]
    rw [e]; omega
theorem set_ok {L : List Int} {i : Nat} {v : Int} (hl : 3 ≤ L.length) (hl2 : L.length ≤ 8) (h : ∀ x ∈ L, 1 ≤ x ∧ x ≤ 1000000) (h1 : 1 ≤ v) (h2 : v ≤ 1000000) : okL (L.set i v) :=
  ⟨by rw [List.length_set]; exact hl, by rw [List.length_set]; exact hl2, fun x hx => by
    rcases List.mem_or_eq_of_mem_set hx with hx | hx
    · exact h x hx
    · omega⟩
theorem most_ok {w : Int} (h0 : 0 ≤ w) (h1 : w < 7) : 1 ≤ gI [9, 9, 3, 1000000, 4, 9, 2] w ∧ gI [9, 9, 3, 1000000, 4, 9, 2] w ≤ 1000000 ∧ (w = 4 → gI [9, 9, 3, 1000000, 4, 9, 2] w = 4) ∧ (w = 5 → gI [9, 9, 3, 1000000, 4, 9, 2] w = 9) := by
  have : w = 0 ∨ w = 1 ∨ w = 2 ∨ w = 3 ∨ w = 4 ∨ w = 5 ∨ w = 6 := by omega
  rcases this with rfl | rfl | rfl | rfl | rfl | rfl | rfl <;> decide
theorem ixN_nat {n i : Nat} (h : i < n) : ixN n (i : Int) = some i := by
  unfold ixN
  rw [if_pos (by omega), if_pos (by omega), Int.toNat_natCast]
theorem enI_mem : ∀ (L : List Int) (k : Nat) (q : Int × Int), q ∈ enI k L → q.2 ∈ L
  | [], _, _, h => by cases h
  | a :: L, k, q, h => by
    rcases List.mem_cons.mp h with e | h
    · rw [e]; exact List.mem_cons_self
    · exact List.mem_cons_of_mem _ (enI_mem L (k + 1) q h)
def tail16 (K : PySem.W.Frag) : DS := (sSeq (sIf (tV (eBin (dEq false) (eV 2) (eC (.int 5)))) (sSeq (sSet 7 (eUn dSum (eLcO 4 (enD 0) [8, 9] (gT [8, 9]) (tV (eBin (dEq true) (eV 8) (eO 5))) (eBin dMul (eV 9) (eBin dSub (eC (.int 1)) (eBin dMul (eC (.int 2)) (eCallO' (sp__law_draw K) 0 (aCons (eC (.int 2)) aNil)))))))) (sSub 4 (eBin dMax2 (eC (.int 1)) (eUn dAbs (eO 7))) (eV 5))) sNx) (sFz 4 (sRet (eV 4))))
theorem lengths_eq (K : PySem.W.Frag) : B__law_lengths K = (sSeq (sParSS 1 2 (eBin dAdd (eC (.int 3)) (eCallO' (sp__law_draw K) 0 (aCons (eC (.int 6)) aNil))) (eCallO' (sp__law_draw K) 0 (aCons (eC (.int 7)) aNil))) (sSeq (sSet 3 (eBin dIx (eLst (aCons (eC (.int 9)) (aCons (eC (.int 9)) (aCons (eC (.int 3)) (aCons (eC (.int 1000000)) (aCons (eC (.int 4)) (aCons (eC (.int 9)) (aCons (eC (.int 2)) aNil)))))))) (eV 2))) (sSeq (sSetO 4 (eLc (iR1 (eV 1)) [8] (gN 8) uYes (eBin dAdd (eC (.int 1)) (eCallO' (sp__law_draw K) 0 (aCons (eV 3) aNil))))) (sSeq (sSet 5 (eCallO' (sp__law_draw K) 0 (aCons (eV 1) aNil))) (sSeq (sSet 6 (eBin dSub (eUn dSum (eO 4)) (eIxO 4 (eV 5)))) (sSeq (sIf (tV (eBin (dEq false) (eV 2) (eC (.int 4)))) (sSub 4 (eBin dAdd (eV 6) (eCallO' (sp__law_draw K) 0 (aCons (eC (.int 3)) aNil))) (eV 5)) sNx) (tail16 K))))))) := rfl
theorem tail16_ok {K : PySem.W.Frag} {d1 : D} {k at_ : Nat} {F : List Int} {w : Int} {s1 s3 s6 : Sl} (hp : PenOk k d1) (hk : k ≤ 20000) (hl : 3 ≤ F.length) (hl2 : F.length ≤ 8) (hF : ∀ x ∈ F, 1 ≤ x ∧ x ≤ 1000000) (hw : w = 5 → ∀ x ∈ F, x ≤ 9) (ha : at_ < F.length) {Po : D → D → Prop} {R : DX → D → Prop} (p : ∀ L d1, okL L → PenOk (k + 8) d1 → Po (dl L) d1)
    (n1 : ∀ d, s1 ≠ .o d ∧ s1 ≠ .m d) :
    tail16 K [.m d1, s1, .s (.int w), s3, .o (dl F), .s (.int (at_ : Int)), s6, .e, .e, .e] { nx := fun ρ => ∃ d1, own0 ρ d1 ∧ Po .non d1, rt := fun d ρ => ∃ d1, own0 ρ d1 ∧ Po d d1, xe := fun y ρ => ∃ d1, own0 ρ d1 ∧ R y d1 } := by
  simp only [tail16, sSeq, sIf, sFor, sSet, sSetO, sRet, sRetN, sNx, sNo, sEx, sFz, sFq, sFldS, sSub, sApp, sExt, sDput, sDupd, sAsg, sParSS, sParSO, sParOS, sParOO, eV, eO, eC, eBin, eUn, eCall, eCallO', eCallO, eMake, eMeth, eCallR, eIf, eNot, eAnd, eOr, eTup, eLst, eIxO, ePop, eIndex, eD1, eSl, oNo, oIs, aNil, aCons, aStar, tV, uNot, uAnd, uOr, uYes, dI, dIs, DV.isNon, dLen, dTuple, dNeg, dMax2, dMin2, gN, gT, gsN, ownD, putO, putFD, en0, en1, own0, List.map_cons, List.map_nil, List.replicate, List.cons.injEq, Nat.sub_self, Nat.reduceSub, Nat.reduceAdd, Bool.not_true, Bool.not_false,  List.length_cons, List.length_nil, List.getElem?_cons_zero, List.getElem?_cons_succ, List.set_cons_zero, List.set_cons_succ, List.cons_append, List.nil_append, Option.some.injEq, Sl.s.injEq, Sl.o.injEq, Sl.m.injEq, reduceCtorEq, D.int.injEq, D.bl.injEq, D.lst.injEq, D.tup.injEq, D.str.injEq, D.dic.injEq, D.obj.injEq, bne_self_eq_false, Bool.bne_true, Bool.bne_false, ite_true, ite_false, exists_eq_left', exists_eq_left, exists_eq_right, exists_eq', exists_and_left, exists_const, or_false, false_or, and_true, true_and, and_false, false_and, if_true, if_false, Bool.false_eq_true]
  refine eq_ii.mpr ⟨_, rfl, ?_⟩
  rw [Bool.bne_false]
  by_cases c : w = 5
  · rw [if_pos (decide_eq_true c)]
    unfold eLcO
    refine ⟨F.map D.int, rfl, by decide, by simp [quiet], ?_⟩
    rw [enD_map]
    have key : ∀ (xs : List (Int × Int)) (acc : List Int) (d : D) (k' : Nat) (Cn : List D → En → Prop), PenOk k' d → k' + xs.length ≤ 30000 → (∀ q ∈ xs, 1 ≤ q.2 ∧ q.2 ≤ 9) → (∀ a ∈ acc, -9 ≤ a ∧ a ≤ 9) → acc.length + xs.length ≤ 8 →
        (∀ (acc' : List Int) d', acc'.length ≤ 8 → (∀ a ∈ acc', -9 ≤ a ∧ a ≤ 9) → PenOk (k' + xs.length) d' → Cn (acc'.map D.int) [.m d', s1, .s (.int w), s3, .e, .s (.int (at_ : Int)), s6, .e, .e, .e]) →
        lcD [8, 9] (gT [8, 9]) (tV (eBin (dEq true) (eV 8) (eO 5))) (eBin dMul (eV 9) (eBin dSub (eC (D.int 1)) (eBin dMul (eC (D.int 2)) (eCallO' (sp__law_draw K) 0 (aCons (eC (D.int 2)) aNil))))) (xs.map eD2) (acc.map D.int) [.m d, s1, .s (.int w), s3, .e, .s (.int (at_ : Int)), s6, .e, .e, .e] Cn noR := fun xs => by
      induction xs with
      | nil => intro acc d k' Cn h1 _ _ h4 h5 hC; exact hC acc d (by simpa using h5) h4 (by simpa using h1)
      | cons q xs ih =>
        intro acc d k' Cn h1 h2 h3 h4 h5 hC
        have hq := h3 q List.mem_cons_self
        rw [List.length_cons] at h2 h5
        simp only [List.map_cons, lcD, eD2, sSeq, sIf, sFor, sSet, sSetO, sRet, sRetN, sNx, sNo, sEx, sFz, sFq, sFldS, sSub, sApp, sExt, sDput, sDupd, sAsg, sParSS, sParSO, sParOS, sParOO, eV, eO, eC, eBin, eUn, eCall, eCallO', eCallO, eMake, eMeth, eCallR, eIf, eNot, eAnd, eOr, eTup, eLst, eIxO, ePop, eIndex, eD1, eSl, oNo, oIs, aNil, aCons, aStar, tV, uNot, uAnd, uOr, uYes, dI, dIs, DV.isNon, dLen, dTuple, dNeg, dMax2, dMin2, gN, gT, gsN, ownD, putO, putFD, en0, en1, own0, List.map_cons, List.map_nil, List.replicate, List.cons.injEq, Nat.sub_self, Nat.reduceSub, Nat.reduceAdd, Bool.not_true, Bool.not_false,  List.length_cons, List.length_nil, List.getElem?_cons_zero, List.getElem?_cons_succ, List.set_cons_zero, List.set_cons_succ, List.cons_append, List.nil_append, Option.some.injEq, Sl.s.injEq, Sl.o.injEq, Sl.m.injEq, reduceCtorEq, D.int.injEq, D.bl.injEq, D.lst.injEq, D.tup.injEq, D.str.injEq, D.dic.injEq, D.obj.injEq, bne_self_eq_false, Bool.bne_true, Bool.bne_false, ite_true, ite_false, exists_eq_left', exists_eq_left, exists_eq_right, exists_eq', exists_and_left, exists_const, or_false, false_or, and_true, true_and, and_false, false_and, if_true, if_false, Bool.false_eq_true]
        refine eq_ii.mpr ⟨_, rfl, ?_⟩
        by_cases e : q.1 = (at_ : Int)
        · rw [if_neg (by simp [e])]
          exact ih acc d k' Cn h1 (by omega) (fun x hx => h3 x (List.mem_cons_of_mem _ hx)) h4 (by omega) fun acc' d' g1 g2 g3 => hC acc' d' g1 g2 (g3.mono (by rw [List.length_cons]; omega))
        · rw [if_pos (by simp [e])]
          refine ⟨k', d, 2, rfl, h1, by omega, by decide, by decide, fun v d2 v0 v1 hp2 => ?_⟩
          simp only [dMul, sSeq, sIf, sFor, sSet, sSetO, sRet, sRetN, sNx, sNo, sEx, sFz, sFq, sFldS, sSub, sApp, sExt, sDput, sDupd, sAsg, sParSS, sParSO, sParOS, sParOO, eV, eO, eC, eBin, eUn, eCall, eCallO', eCallO, eMake, eMeth, eCallR, eIf, eNot, eAnd, eOr, eTup, eLst, eIxO, ePop, eIndex, eD1, eSl, oNo, oIs, aNil, aCons, aStar, tV, uNot, uAnd, uOr, uYes, dI, dIs, DV.isNon, dLen, dTuple, dNeg, dMax2, dMin2, gN, gT, gsN, ownD, putO, putFD, en0, en1, own0, List.map_cons, List.map_nil, List.replicate, List.cons.injEq, Nat.sub_self, Nat.reduceSub, Nat.reduceAdd, Bool.not_true, Bool.not_false,  List.length_cons, List.length_nil, List.getElem?_cons_zero, List.getElem?_cons_succ, List.set_cons_zero, List.set_cons_succ, List.cons_append, List.nil_append, Option.some.injEq, Sl.s.injEq, Sl.o.injEq, Sl.m.injEq, reduceCtorEq, D.int.injEq, D.bl.injEq, D.lst.injEq, D.tup.injEq, D.str.injEq, D.dic.injEq, D.obj.injEq, bne_self_eq_false, Bool.bne_true, Bool.bne_false, ite_true, ite_false, exists_eq_left', exists_eq_left, exists_eq_right, exists_eq', exists_and_left, exists_const, or_false, false_or, and_true, true_and, and_false, false_and, if_true, if_false, Bool.false_eq_true, List.length_map]
          refine ⟨mul_small (by decide), mul_small ⟨by omega, by omega⟩, Nat.lt_of_lt_of_le (by omega : acc.length < 100000) (by decide), ?_⟩
          have ea : acc.map D.int ++ [D.int (q.2 * (1 - 2 * v))] = (acc ++ [q.2 * (1 - 2 * v)]).map D.int := by simp
          rw [ea]
          refine ih _ d2 (k' + 1) Cn hp2 (by omega) (fun x hx => h3 x (List.mem_cons_of_mem _ hx)) (fun a ha => ?_) (by simp; omega) fun acc' d' g1 g2 g3 => hC acc' d' g1 g2 (g3.mono (by rw [List.length_cons]; omega))
          rcases List.mem_append.mp ha with ha | ha
          · exact h4 a ha
          · rw [List.mem_singleton.mp ha]
            have : v = 0 ∨ v = 1 := by omega
            rcases this with rfl | rfl
            · have : q.2 * (1 - 2 * 0) = q.2 := by omega
              rw [this]; omega
            · have : q.2 * (1 - 2 * 1) = -q.2 := by omega
              rw [this]; omega
    have hen : ∀ q ∈ enI 0 F, 1 ≤ q.2 ∧ q.2 ≤ 9 := fun q hq => by
      have : q.2 ∈ F := enI_mem F 0 q hq
      exact ⟨(hF _ this).1, hw c _ this⟩
    refine key (enI 0 F) [] d1 k _ hp (by rw [enI_len]; omega) hen (fun a ha => by cases ha) (by rw [enI_len]; simpa using hl2) fun acc' d' g1 g2 g3 => ?_
    have b1 := sum_hi (m := 9) fun x hx => (g2 x hx).2
    have b2 : -9 * (acc'.length : Int) ≤ acc'.sum := by
      clear g1 g3 b1
      induction acc' with
      | nil => simp
      | cons a l ih =>
        have h1 := (g2 a List.mem_cons_self).1
        have h2 := ih fun x hx => g2 x (List.mem_cons_of_mem _ hx)
        rw [List.length_cons, List.sum_cons]; omega
    show dSum (.lst (acc'.map D.int)) _
    rw [dSum_l]
    simp only [back, sSeq, sIf, sFor, sSet, sSetO, sRet, sRetN, sNx, sNo, sEx, sFz, sFq, sFldS, sSub, sApp, sExt, sDput, sDupd, sAsg, sParSS, sParSO, sParOS, sParOO, eV, eO, eC, eBin, eUn, eCall, eCallO', eCallO, eMake, eMeth, eCallR, eIf, eNot, eAnd, eOr, eTup, eLst, eIxO, ePop, eIndex, eD1, eSl, oNo, oIs, aNil, aCons, aStar, tV, uNot, uAnd, uOr, uYes, dI, dIs, DV.isNon, dLen, dTuple, dNeg, dMax2, dMin2, gN, gT, gsN, ownD, putO, putFD, en0, en1, own0, List.map_cons, List.map_nil, List.replicate, List.cons.injEq, Nat.sub_self, Nat.reduceSub, Nat.reduceAdd, Bool.not_true, Bool.not_false,  List.length_cons, List.length_nil, List.getElem?_cons_zero, List.getElem?_cons_succ, List.set_cons_zero, List.set_cons_succ, List.cons_append, List.nil_append, Option.some.injEq, Sl.s.injEq, Sl.o.injEq, Sl.m.injEq, reduceCtorEq, D.int.injEq, D.bl.injEq, D.lst.injEq, D.tup.injEq, D.str.injEq, D.dic.injEq, D.obj.injEq, bne_self_eq_false, Bool.bne_true, Bool.bne_false, ite_true, ite_false, exists_eq_left', exists_eq_left, exists_eq_right, exists_eq', exists_and_left, exists_const, or_false, false_or, and_true, true_and, and_false, false_and, if_true, if_false, Bool.false_eq_true, dAbs_i, List.length_map]
    rw [enI_len] at g3
    refine ⟨at_, ixN_nat ha, d', ⟨0, rfl⟩, ?_⟩
    have em : D.lst ((F.map D.int).set at_ (D.int (if (if acc'.sum < 0 then -acc'.sum else acc'.sum) > 1 then (if acc'.sum < 0 then -acc'.sum else acc'.sum) else 1))) = dl (F.set at_ (if (if acc'.sum < 0 then -acc'.sum else acc'.sum) > 1 then (if acc'.sum < 0 then -acc'.sum else acc'.sum) else 1)) := by rw [dl, List.map_set]
    rw [em]
    refine p _ d' (set_ok hl hl2 hF ?_ ?_) (g3.mono (by omega))
    · split <;> omega
    · split
      · split <;> omega
      · omega
  · rw [if_neg (by simp [c])]
    exact ⟨d1, ⟨0, rfl⟩, p F d1 ⟨hl, hl2, hF⟩ (hp.mono (by omega))⟩
theorem len__law_lengths (K : PySem.W.Frag) : ∀ ds P R, sp__law_lengths K ds P R → ds.length = 1 := fun _ _ _ ⟨_, _, e, _⟩ => by rw [e]; rfl
theorem pu__law_lengths (K : PySem.W.Frag) : ∀ d0 ds (Po : D → D → Prop) (R : DX → D → Prop), sp__law_lengths K (d0 :: ds) Po R → B__law_lengths K (en1 ["_law_pen_here", "_law_many", "_law_way", "_law_most", "_law_found", "_law_at", "_law_rest", "_law_signed", "_law_bar", "_law_length"] d0 ds) { nx := fun ρ => ∃ d1, own0 ρ d1 ∧ Po .non d1, rt := fun d ρ => ∃ d1, own0 ρ d1 ∧ Po d d1, xe := fun y ρ => ∃ d1, own0 ρ d1 ∧ R y d1 } := by
  rintro d0 ds Po R ⟨k, d0', e, hp, hk, p⟩
  cases e
  rw [lengths_eq]
  simp only [sSeq, sIf, sFor, sSet, sSetO, sRet, sRetN, sNx, sNo, sEx, sFz, sFq, sFldS, sSub, sApp, sExt, sDput, sDupd, sAsg, sParSS, sParSO, sParOS, sParOO, eV, eO, eC, eBin, eUn, eCall, eCallO', eCallO, eMake, eMeth, eCallR, eIf, eNot, eAnd, eOr, eTup, eLst, eIxO, ePop, eIndex, eD1, eSl, oNo, oIs, aNil, aCons, aStar, tV, uNot, uAnd, uOr, uYes, dI, dIs, DV.isNon, dLen, dTuple, dNeg, dMax2, dMin2, gN, gT, gsN, ownD, putO, putFD, en0, en1, own0, List.map_cons, List.map_nil, List.replicate, List.cons.injEq, Nat.sub_self, Nat.reduceSub, Nat.reduceAdd, Bool.not_true, Bool.not_false,  List.length_cons, List.length_nil, List.getElem?_cons_zero, List.getElem?_cons_succ, List.set_cons_zero, List.set_cons_succ, List.cons_append, List.nil_append, Option.some.injEq, Sl.s.injEq, Sl.o.injEq, Sl.m.injEq, reduceCtorEq, D.int.injEq, D.bl.injEq, D.lst.injEq, D.tup.injEq, D.str.injEq, D.dic.injEq, D.obj.injEq, bne_self_eq_false, Bool.bne_true, Bool.bne_false, ite_true, ite_false, exists_eq_left', exists_eq_left, exists_eq_right, exists_eq', exists_and_left, exists_const, or_false, false_or, and_true, true_and, and_false, false_and, if_true, if_false, Bool.false_eq_true]
  refine ⟨k, d0, 6, rfl, hp, by omega, by decide, by decide, fun v d1 v0 v1 hp1 => ?_⟩
  simp only [dAdd, sSeq, sIf, sFor, sSet, sSetO, sRet, sRetN, sNx, sNo, sEx, sFz, sFq, sFldS, sSub, sApp, sExt, sDput, sDupd, sAsg, sParSS, sParSO, sParOS, sParOO, eV, eO, eC, eBin, eUn, eCall, eCallO', eCallO, eMake, eMeth, eCallR, eIf, eNot, eAnd, eOr, eTup, eLst, eIxO, ePop, eIndex, eD1, eSl, oNo, oIs, aNil, aCons, aStar, tV, uNot, uAnd, uOr, uYes, dI, dIs, DV.isNon, dLen, dTuple, dNeg, dMax2, dMin2, gN, gT, gsN, ownD, putO, putFD, en0, en1, own0, List.map_cons, List.map_nil, List.replicate, List.cons.injEq, Nat.sub_self, Nat.reduceSub, Nat.reduceAdd, Bool.not_true, Bool.not_false,  List.length_cons, List.length_nil, List.getElem?_cons_zero, List.getElem?_cons_succ, List.set_cons_zero, List.set_cons_succ, List.cons_append, List.nil_append, Option.some.injEq, Sl.s.injEq, Sl.o.injEq, Sl.m.injEq, reduceCtorEq, D.int.injEq, D.bl.injEq, D.lst.injEq, D.tup.injEq, D.str.injEq, D.dic.injEq, D.obj.injEq, bne_self_eq_false, Bool.bne_true, Bool.bne_false, ite_true, ite_false, exists_eq_left', exists_eq_left, exists_eq_right, exists_eq', exists_and_left, exists_const, or_false, false_or, and_true, true_and, and_false, false_and, if_true, if_false, Bool.false_eq_true]
  refine ⟨k + 1, d1, 7, rfl, hp1, by omega, by decide, by decide, fun w d2 w0 w1 hp2 => ?_⟩
  refine ⟨by decide, ?_⟩
  refine ix_l (L := [9, 9, 3, 1000000, 4, 9, 2]) w0 (by simpa using w1) ?_
  obtain ⟨m1, m2, m3, m4⟩ := most_ok w0 w1
  generalize gI [9, 9, 3, 1000000, 4, 9, 2] w = mo at m1 m2 m3 m4 ⊢
  obtain ⟨n, hn⟩ : ∃ n : Nat, 3 + v = n := ⟨(3 + v).toNat, by omega⟩
  rw [hn]
  have hn3 : 3 ≤ n := by omega
  have hn8 : n ≤ 8 := by omega
  unfold eLc
  refine iR1_of (n := n) (by omega) (fun Q q => ⟨_, rfl, q⟩) ⟨by simp [quiet], ?_⟩
  have key : ∀ (xs acc : List Int) (d : D) (k' : Nat) (Cn : List D → En → Prop), PenOk k' d → k' + xs.length ≤ 30000 → (∀ a ∈ acc, 1 ≤ a ∧ a ≤ mo) → acc.length + xs.length ≤ 100 →
      (∀ (acc' : List Int) d', acc'.length = acc.length + xs.length → (∀ a ∈ acc', 1 ≤ a ∧ a ≤ mo) → PenOk (k' + xs.length) d' → Cn (acc'.map D.int) [.m d', .s (.int (n : Int)), .s (.int w), .s (.int mo), .e, .e, .e, .e, .e, .e]) →
      lcD [8] (gN 8) uYes (eBin dAdd (eC (.int 1)) (eCallO' (sp__law_draw K) 0 (aCons (eV 3) aNil))) (xs.map D.int) (acc.map D.int) [.m d, .s (.int (n : Int)), .s (.int w), .s (.int mo), .e, .e, .e, .e, .e, .e] Cn noR := fun xs => by
    induction xs with
    | nil => intro acc d k' Cn h1 _ h4 _ hC; exact hC acc d (by simp) h4 (by simpa using h1)
    | cons q xs ih =>
      intro acc d k' Cn h1 h2 h4 h5 hC
      rw [List.length_cons] at h2 h5
      simp only [List.map_cons, lcD, sSeq, sIf, sFor, sSet, sSetO, sRet, sRetN, sNx, sNo, sEx, sFz, sFq, sFldS, sSub, sApp, sExt, sDput, sDupd, sAsg, sParSS, sParSO, sParOS, sParOO, eV, eO, eC, eBin, eUn, eCall, eCallO', eCallO, eMake, eMeth, eCallR, eIf, eNot, eAnd, eOr, eTup, eLst, eIxO, ePop, eIndex, eD1, eSl, oNo, oIs, aNil, aCons, aStar, tV, uNot, uAnd, uOr, uYes, dI, dIs, DV.isNon, dLen, dTuple, dNeg, dMax2, dMin2, gN, gT, gsN, ownD, putO, putFD, en0, en1, own0, List.map_cons, List.map_nil, List.replicate, List.cons.injEq, Nat.sub_self, Nat.reduceSub, Nat.reduceAdd, Bool.not_true, Bool.not_false,  List.length_cons, List.length_nil, List.getElem?_cons_zero, List.getElem?_cons_succ, List.set_cons_zero, List.set_cons_succ, List.cons_append, List.nil_append, Option.some.injEq, Sl.s.injEq, Sl.o.injEq, Sl.m.injEq, reduceCtorEq, D.int.injEq, D.bl.injEq, D.lst.injEq, D.tup.injEq, D.str.injEq, D.dic.injEq, D.obj.injEq, bne_self_eq_false, Bool.bne_true, Bool.bne_false, ite_true, ite_false, exists_eq_left', exists_eq_left, exists_eq_right, exists_eq', exists_and_left, exists_const, or_false, false_or, and_true, true_and, and_false, false_and, if_true, if_false, Bool.false_eq_true]
      refine ⟨k', d, mo, rfl, h1, by omega, by omega, by omega, fun u d3 u0 u1 hp3 => ?_⟩
      simp only [dAdd, sSeq, sIf, sFor, sSet, sSetO, sRet, sRetN, sNx, sNo, sEx, sFz, sFq, sFldS, sSub, sApp, sExt, sDput, sDupd, sAsg, sParSS, sParSO, sParOS, sParOO, eV, eO, eC, eBin, eUn, eCall, eCallO', eCallO, eMake, eMeth, eCallR, eIf, eNot, eAnd, eOr, eTup, eLst, eIxO, ePop, eIndex, eD1, eSl, oNo, oIs, aNil, aCons, aStar, tV, uNot, uAnd, uOr, uYes, dI, dIs, DV.isNon, dLen, dTuple, dNeg, dMax2, dMin2, gN, gT, gsN, ownD, putO, putFD, en0, en1, own0, List.map_cons, List.map_nil, List.replicate, List.cons.injEq, Nat.sub_self, Nat.reduceSub, Nat.reduceAdd, Bool.not_true, Bool.not_false,  List.length_cons, List.length_nil, List.getElem?_cons_zero, List.getElem?_cons_succ, List.set_cons_zero, List.set_cons_succ, List.cons_append, List.nil_append, Option.some.injEq, Sl.s.injEq, Sl.o.injEq, Sl.m.injEq, reduceCtorEq, D.int.injEq, D.bl.injEq, D.lst.injEq, D.tup.injEq, D.str.injEq, D.dic.injEq, D.obj.injEq, bne_self_eq_false, Bool.bne_true, Bool.bne_false, ite_true, ite_false, exists_eq_left', exists_eq_left, exists_eq_right, exists_eq', exists_and_left, exists_const, or_false, false_or, and_true, true_and, and_false, false_and, if_true, if_false, Bool.false_eq_true, List.length_map]
      refine ⟨Nat.lt_of_lt_of_le (by omega : acc.length < 100000) (by decide), ?_⟩
      have ea : acc.map D.int ++ [D.int (1 + u)] = (acc ++ [1 + u]).map D.int := by simp
      rw [ea]
      refine ih _ d3 (k' + 1) Cn hp3 (by omega) (fun a ha => ?_) (by simp; omega) fun acc' d' g1 g2 g3 => hC acc' d' (by rw [g1, List.length_cons]; simp; omega) g2 (g3.mono (by rw [List.length_cons]; omega))
      rcases List.mem_append.mp ha with ha | ha
      · exact h4 a ha
      · rw [List.mem_singleton.mp ha]; omega
  refine key (rgI n) [] d2 (k + 1 + 1) _ hp2 (by rw [rgI_len]; omega) (fun a ha => by cases ha) (by rw [rgI_len]; simp; omega) fun F d3 g1 g2 g3 => ?_
  rw [rgI_len] at g1 g3
  have hFl : F.length = n := by simpa using g1
  simp only [back, sSeq, sIf, sFor, sSet, sSetO, sRet, sRetN, sNx, sNo, sEx, sFz, sFq, sFldS, sSub, sApp, sExt, sDput, sDupd, sAsg, sParSS, sParSO, sParOS, sParOO, eV, eO, eC, eBin, eUn, eCall, eCallO', eCallO, eMake, eMeth, eCallR, eIf, eNot, eAnd, eOr, eTup, eLst, eIxO, ePop, eIndex, eD1, eSl, oNo, oIs, aNil, aCons, aStar, tV, uNot, uAnd, uOr, uYes, dI, dIs, DV.isNon, dLen, dTuple, dNeg, dMax2, dMin2, gN, gT, gsN, ownD, putO, putFD, en0, en1, own0, List.map_cons, List.map_nil, List.replicate, List.cons.injEq, Nat.sub_self, Nat.reduceSub, Nat.reduceAdd, Bool.not_true, Bool.not_false,  List.length_cons, List.length_nil, List.getElem?_cons_zero, List.getElem?_cons_succ, List.set_cons_zero, List.set_cons_succ, List.cons_append, List.nil_append, Option.some.injEq, Sl.s.injEq, Sl.o.injEq, Sl.m.injEq, reduceCtorEq, D.int.injEq, D.bl.injEq, D.lst.injEq, D.tup.injEq, D.str.injEq, D.dic.injEq, D.obj.injEq, bne_self_eq_false, Bool.bne_true, Bool.bne_false, ite_true, ite_false, exists_eq_left', exists_eq_left, exists_eq_right, exists_eq', exists_and_left, exists_const, or_false, false_or, and_true, true_and, and_false, false_and, if_true, if_false, Bool.false_eq_true]
  refine ⟨k + 1 + 1 + n, d3, n, rfl, g3, by omega, by omega, by omega, fun u d4 u0 u1 hp4 => ?_⟩
  obtain ⟨a, rfl⟩ : ∃ a : Nat, u = a := ⟨u.toNat, by omega⟩
  have ha : a < F.length := by omega
  show dSum (.lst (F.map D.int)) _
  rw [dSum_l]
  simp only [sSeq, sIf, sFor, sSet, sSetO, sRet, sRetN, sNx, sNo, sEx, sFz, sFq, sFldS, sSub, sApp, sExt, sDput, sDupd, sAsg, sParSS, sParSO, sParOS, sParOO, eV, eO, eC, eBin, eUn, eCall, eCallO', eCallO, eMake, eMeth, eCallR, eIf, eNot, eAnd, eOr, eTup, eLst, eIxO, ePop, eIndex, eD1, eSl, oNo, oIs, aNil, aCons, aStar, tV, uNot, uAnd, uOr, uYes, dI, dIs, DV.isNon, dLen, dTuple, dNeg, dMax2, dMin2, gN, gT, gsN, ownD, putO, putFD, en0, en1, own0, List.map_cons, List.map_nil, List.replicate, List.cons.injEq, Nat.sub_self, Nat.reduceSub, Nat.reduceAdd, Bool.not_true, Bool.not_false,  List.length_cons, List.length_nil, List.getElem?_cons_zero, List.getElem?_cons_succ, List.set_cons_zero, List.set_cons_succ, List.cons_append, List.nil_append, Option.some.injEq, Sl.s.injEq, Sl.o.injEq, Sl.m.injEq, reduceCtorEq, D.int.injEq, D.bl.injEq, D.lst.injEq, D.tup.injEq, D.str.injEq, D.dic.injEq, D.obj.injEq, bne_self_eq_false, Bool.bne_true, Bool.bne_false, ite_true, ite_false, exists_eq_left', exists_eq_left, exists_eq_right, exists_eq', exists_and_left, exists_const, or_false, false_or, and_true, true_and, and_false, false_and, if_true, if_false, Bool.false_eq_true]
  refine ⟨.int (gI F (a : Int)), by rw [atI_map, atI_nat _ _ ha, gI_nat ha]; rfl, ?_⟩
  simp only [sSeq, sIf, sFor, sSet, sSetO, sRet, sRetN, sNx, sNo, sEx, sFz, sFq, sFldS, sSub, sApp, sExt, sDput, sDupd, sAsg, sParSS, sParSO, sParOS, sParOO, eV, eO, eC, eBin, eUn, eCall, eCallO', eCallO, eMake, eMeth, eCallR, eIf, eNot, eAnd, eOr, eTup, eLst, eIxO, ePop, eIndex, eD1, eSl, oNo, oIs, aNil, aCons, aStar, tV, uNot, uAnd, uOr, uYes, dI, dIs, DV.isNon, dLen, dTuple, dNeg, dMax2, dMin2, gN, gT, gsN, ownD, putO, putFD, en0, en1, own0, List.map_cons, List.map_nil, List.replicate, List.cons.injEq, Nat.sub_self, Nat.reduceSub, Nat.reduceAdd, Bool.not_true, Bool.not_false,  List.length_cons, List.length_nil, List.getElem?_cons_zero, List.getElem?_cons_succ, List.set_cons_zero, List.set_cons_succ, List.cons_append, List.nil_append, Option.some.injEq, Sl.s.injEq, Sl.o.injEq, Sl.m.injEq, reduceCtorEq, D.int.injEq, D.bl.injEq, D.lst.injEq, D.tup.injEq, D.str.injEq, D.dic.injEq, D.obj.injEq, bne_self_eq_false, Bool.bne_true, Bool.bne_false, ite_true, ite_false, exists_eq_left', exists_eq_left, exists_eq_right, exists_eq', exists_and_left, exists_const, or_false, false_or, and_true, true_and, and_false, false_and, if_true, if_false, Bool.false_eq_true]
  refine eq_ii.mpr ⟨_, rfl, ?_⟩
  rw [Bool.bne_false]
  have hpm := perm_erase F a ha
  have hsum := sum_perm hpm
  rw [List.sum_cons, ← gI_nat ha] at hsum
  have hel : (F.eraseIdx a).length = n - 1 := by rw [List.length_eraseIdx_of_lt ha, hFl]
  have hem : ∀ x ∈ F.eraseIdx a, 1 ≤ x ∧ x ≤ mo := fun x hx => g2 x (List.mem_of_mem_eraseIdx hx)
  have r1 := sum_lo fun x hx => (hem x hx).1
  have r2 := sum_hi fun x hx => (hem x hx).2
  rw [hel] at r1 r2
  have hF6 : ∀ x ∈ F, 1 ≤ x ∧ x ≤ 1000000 := fun x hx => by have := g2 x hx; omega
  by_cases c : w = 4
  · rw [if_pos (decide_eq_true c)]
    have hmo := m3 c
    subst hmo
    refine ⟨k + 1 + 1 + n + 1, d4, 3, rfl, hp4, by omega, by decide, by decide, fun z d5 z0 z1 hp5 => ?_⟩
    simp only [dAdd, sSeq, sIf, sFor, sSet, sSetO, sRet, sRetN, sNx, sNo, sEx, sFz, sFq, sFldS, sSub, sApp, sExt, sDput, sDupd, sAsg, sParSS, sParSO, sParOS, sParOO, eV, eO, eC, eBin, eUn, eCall, eCallO', eCallO, eMake, eMeth, eCallR, eIf, eNot, eAnd, eOr, eTup, eLst, eIxO, ePop, eIndex, eD1, eSl, oNo, oIs, aNil, aCons, aStar, tV, uNot, uAnd, uOr, uYes, dI, dIs, DV.isNon, dLen, dTuple, dNeg, dMax2, dMin2, gN, gT, gsN, ownD, putO, putFD, en0, en1, own0, List.map_cons, List.map_nil, List.replicate, List.cons.injEq, Nat.sub_self, Nat.reduceSub, Nat.reduceAdd, Bool.not_true, Bool.not_false,  List.length_cons, List.length_nil, List.getElem?_cons_zero, List.getElem?_cons_succ, List.set_cons_zero, List.set_cons_succ, List.cons_append, List.nil_append, Option.some.injEq, Sl.s.injEq, Sl.o.injEq, Sl.m.injEq, reduceCtorEq, D.int.injEq, D.bl.injEq, D.lst.injEq, D.tup.injEq, D.str.injEq, D.dic.injEq, D.obj.injEq, bne_self_eq_false, Bool.bne_true, Bool.bne_false, ite_true, ite_false, exists_eq_left', exists_eq_left, exists_eq_right, exists_eq', exists_and_left, exists_const, or_false, false_or, and_true, true_and, and_false, false_and, if_true, if_false, Bool.false_eq_true, List.length_map]
    refine ⟨a, ixN_nat ha, ?_⟩
    rw [← List.map_set]
    exact tail16_ok (F := F.set a (F.sum - gI F (a : Int) + z)) hp5 (by omega) (by rw [List.length_set]; omega) (by rw [List.length_set]; omega) (set_ok (by omega) (by omega) hF6 (by omega) (by omega)).b (fun e => by omega) (by rw [List.length_set]; exact ha) (fun L d6 h1 h2 => p L d6 h1 (h2.mono (by omega))) (fun d => ⟨by simp, by simp⟩)
  · rw [if_neg (by simp [c])]
    exact tail16_ok (F := F) hp4 (by omega) (by omega) (by omega) hF6 (fun e x hx => by have := g2 x hx; have := m4 e; omega) ha (fun L d6 h1 h2 => p L d6 h1 (h2.mono (by omega))) (fun d => ⟨by simp, by simp⟩)
end KT

set_option Elab.async false
set_option linter.all false
set_option maxRecDepth 100000
set_option maxHeartbeats 4000000
/-! The pure part: the law. -/
namespace KT
open PySem L2 DV
def tl2 (K : PySem.W.Frag) : DS := (sIf (uNot (tV (eCallO' (sp__law_anew_right K) 1 (aCons (eV 3) aNil)))) (sRet (eC (.bl false))) sNx)
def tl1 (K : PySem.W.Frag) : DS := (sSeq (sIf (uAnd (tV (eBin dLt (eUn dLen (eO 3)) (eC (.int 8)))) (uAnd (tV (eBin dGt (eUn dMax (eO 3)) (eC (.int 1)))) (uNot (tV (eCallO' (sp__law_two_right K) 1 (aCons (eV 3) aNil)))))) (sRet (eC (.bl false))) sNx) (tl2 K))
theorem law_eq (K : PySem.W.Frag) : B_law K = (sSeq (sSetO 1 (eCall (sp__law_pen K) (aCons (eV 0) aNil))) (sSeq (sFor (iR1 (eC (.int 2))) (gN 2) (sSeq (sSet 3 (eCallO' (sp__law_lengths K) 1 aNil)) (sSeq (sIf (uAnd (tV (eBin dGt (eUn dLen (eO 3)) (eC (.int 3)))) (uAnd (tV (eBin dLe (eUn dMax (eO 3)) (eC (.int 500000)))) (uNot (tV (eCallO' (sp__law_together_right K) 1 (aCons (eV 3) aNil)))))) (sRet (eC (.bl false))) sNx) (tl1 K)))) (sRet (eC (.bl true))))) := rfl
theorem tl2_ok {K : PySem.W.Frag} {k : Nat} {d s : D} {z : Sl} {L : List Int} {Pn : DV.Pn} (hp : PenOk k d) (hk : k ≤ 5000) (ok : okL L) (h : ∀ d', PenOk (k + 10) d' → Pn.nx [.s s, .o d', z, .s (dl L)]) : tl2 K [.s s, .o d, z, .s (dl L)] Pn := by
  simp only [tl2, sSeq, sIf, sFor, sSet, sSetO, sRet, sRetN, sNx, sNo, sEx, sFz, sFq, sFldS, sSub, sApp, sExt, sDput, sDupd, sAsg, sParSS, sParSO, sParOS, sParOO, eV, eO, eC, eBin, eUn, eCall, eCallO', eCallO, eMake, eMeth, eCallR, eIf, eNot, eAnd, eOr, eTup, eLst, eIxO, ePop, eIndex, eD1, eSl, oNo, oIs, aNil, aCons, aStar, tV, uNot, uAnd, uOr, uYes, dI, dIs, DV.isNon, dLen, dTuple, dNeg, dMax2, dMin2, gN, gT, gsN, ownD, putO, putFD, en0, en1, own0, List.map_cons, List.map_nil, List.replicate, List.cons.injEq, Nat.sub_self, Nat.reduceSub, Nat.reduceAdd, Bool.not_true, Bool.not_false,  List.length_cons, List.length_nil, List.getElem?_cons_zero, List.getElem?_cons_succ, List.set_cons_zero, List.set_cons_succ, List.cons_append, List.nil_append, Option.some.injEq, Sl.s.injEq, Sl.o.injEq, Sl.m.injEq, reduceCtorEq, D.int.injEq, D.bl.injEq, D.lst.injEq, D.tup.injEq, D.str.injEq, D.dic.injEq, D.obj.injEq, bne_self_eq_false, Bool.bne_true, Bool.bne_false, ite_true, ite_false, exists_eq_left', exists_eq_left, exists_eq_right, exists_eq', exists_and_left, exists_const, or_false, false_or, and_true, true_and, and_false, false_and, if_true, if_false, Bool.false_eq_true]
  refine ⟨k, d, L, rfl, hp, by omega, ok, fun d1 hp1 => ?_⟩
  simp only [sSeq, sIf, sFor, sSet, sSetO, sRet, sRetN, sNx, sNo, sEx, sFz, sFq, sFldS, sSub, sApp, sExt, sDput, sDupd, sAsg, sParSS, sParSO, sParOS, sParOO, eV, eO, eC, eBin, eUn, eCall, eCallO', eCallO, eMake, eMeth, eCallR, eIf, eNot, eAnd, eOr, eTup, eLst, eIxO, ePop, eIndex, eD1, eSl, oNo, oIs, aNil, aCons, aStar, tV, uNot, uAnd, uOr, uYes, dI, dIs, DV.isNon, dLen, dTuple, dNeg, dMax2, dMin2, gN, gT, gsN, ownD, putO, putFD, en0, en1, own0, List.map_cons, List.map_nil, List.replicate, List.cons.injEq, Nat.sub_self, Nat.reduceSub, Nat.reduceAdd, Bool.not_true, Bool.not_false,  List.length_cons, List.length_nil, List.getElem?_cons_zero, List.getElem?_cons_succ, List.set_cons_zero, List.set_cons_succ, List.cons_append, List.nil_append, Option.some.injEq, Sl.s.injEq, Sl.o.injEq, Sl.m.injEq, reduceCtorEq, D.int.injEq, D.bl.injEq, D.lst.injEq, D.tup.injEq, D.str.injEq, D.dic.injEq, D.obj.injEq, bne_self_eq_false, Bool.bne_true, Bool.bne_false, ite_true, ite_false, exists_eq_left', exists_eq_left, exists_eq_right, exists_eq', exists_and_left, exists_const, or_false, false_or, and_true, true_and, and_false, false_and, if_true, if_false, Bool.false_eq_true]
  exact h d1 hp1
theorem tl1_ok {K : PySem.W.Frag} {k : Nat} {d s : D} {z : Sl} {L : List Int} {Pn : DV.Pn} (hp : PenOk k d) (hk : k ≤ 4000) (ok : okL L) (h : ∀ d', PenOk (k + 12) d' → Pn.nx [.s s, .o d', z, .s (dl L)]) : tl1 K [.s s, .o d, z, .s (dl L)] Pn := by
  have h1 : ∀ x ∈ L, 1 ≤ x := fun x hx => (ok.b x hx).1
  simp only [tl1, sSeq, sIf, sFor, sSet, sSetO, sRet, sRetN, sNx, sNo, sEx, sFz, sFq, sFldS, sSub, sApp, sExt, sDput, sDupd, sAsg, sParSS, sParSO, sParOS, sParOO, eV, eO, eC, eBin, eUn, eCall, eCallO', eCallO, eMake, eMeth, eCallR, eIf, eNot, eAnd, eOr, eTup, eLst, eIxO, ePop, eIndex, eD1, eSl, oNo, oIs, aNil, aCons, aStar, tV, uNot, uAnd, uOr, uYes, dI, dIs, DV.isNon, dLen, dTuple, dNeg, dMax2, dMin2, gN, gT, gsN, ownD, putO, putFD, en0, en1, own0, List.map_cons, List.map_nil, List.replicate, List.cons.injEq, Nat.sub_self, Nat.reduceSub, Nat.reduceAdd, Bool.not_true, Bool.not_false,  List.length_cons, List.length_nil, List.getElem?_cons_zero, List.getElem?_cons_succ, List.set_cons_zero, List.set_cons_succ, List.cons_append, List.nil_append, Option.some.injEq, Sl.s.injEq, Sl.o.injEq, Sl.m.injEq, reduceCtorEq, D.int.injEq, D.bl.injEq, D.lst.injEq, D.tup.injEq, D.str.injEq, D.dic.injEq, D.obj.injEq, bne_self_eq_false, Bool.bne_true, Bool.bne_false, ite_true, ite_false, exists_eq_left', exists_eq_left, exists_eq_right, exists_eq', exists_and_left, exists_const, or_false, false_or, and_true, true_and, and_false, false_and, if_true, if_false, Bool.false_eq_true, dLen, List.length_map]
  by_cases c : (L.length : Int) < 8
  · rw [if_pos (decide_eq_true c)]
    refine max_of (.inl rfl) h1 ok.ne ?_
    simp only [sSeq, sIf, sFor, sSet, sSetO, sRet, sRetN, sNx, sNo, sEx, sFz, sFq, sFldS, sSub, sApp, sExt, sDput, sDupd, sAsg, sParSS, sParSO, sParOS, sParOO, eV, eO, eC, eBin, eUn, eCall, eCallO', eCallO, eMake, eMeth, eCallR, eIf, eNot, eAnd, eOr, eTup, eLst, eIxO, ePop, eIndex, eD1, eSl, oNo, oIs, aNil, aCons, aStar, tV, uNot, uAnd, uOr, uYes, dI, dIs, DV.isNon, dLen, dTuple, dNeg, dMax2, dMin2, gN, gT, gsN, ownD, putO, putFD, en0, en1, own0, List.map_cons, List.map_nil, List.replicate, List.cons.injEq, Nat.sub_self, Nat.reduceSub, Nat.reduceAdd, Bool.not_true, Bool.not_false,  List.length_cons, List.length_nil, List.getElem?_cons_zero, List.getElem?_cons_succ, List.set_cons_zero, List.set_cons_succ, List.cons_append, List.nil_append, Option.some.injEq, Sl.s.injEq, Sl.o.injEq, Sl.m.injEq, reduceCtorEq, D.int.injEq, D.bl.injEq, D.lst.injEq, D.tup.injEq, D.str.injEq, D.dic.injEq, D.obj.injEq, bne_self_eq_false, Bool.bne_true, Bool.bne_false, ite_true, ite_false, exists_eq_left', exists_eq_left, exists_eq_right, exists_eq', exists_and_left, exists_const, or_false, false_or, and_true, true_and, and_false, false_and, if_true, if_false, Bool.false_eq_true]
    by_cases e : 1 < mx L
    · rw [if_pos (decide_eq_true e)]
      refine ⟨k, d, L, rfl, hp, by omega, ok, by omega, ⟨mx L, mx_mem h1 ok.ne, e⟩, fun d1 hp1 => ?_⟩
      simp only [sSeq, sIf, sFor, sSet, sSetO, sRet, sRetN, sNx, sNo, sEx, sFz, sFq, sFldS, sSub, sApp, sExt, sDput, sDupd, sAsg, sParSS, sParSO, sParOS, sParOO, eV, eO, eC, eBin, eUn, eCall, eCallO', eCallO, eMake, eMeth, eCallR, eIf, eNot, eAnd, eOr, eTup, eLst, eIxO, ePop, eIndex, eD1, eSl, oNo, oIs, aNil, aCons, aStar, tV, uNot, uAnd, uOr, uYes, dI, dIs, DV.isNon, dLen, dTuple, dNeg, dMax2, dMin2, gN, gT, gsN, ownD, putO, putFD, en0, en1, own0, List.map_cons, List.map_nil, List.replicate, List.cons.injEq, Nat.sub_self, Nat.reduceSub, Nat.reduceAdd, Bool.not_true, Bool.not_false,  List.length_cons, List.length_nil, List.getElem?_cons_zero, List.getElem?_cons_succ, List.set_cons_zero, List.set_cons_succ, List.cons_append, List.nil_append, Option.some.injEq, Sl.s.injEq, Sl.o.injEq, Sl.m.injEq, reduceCtorEq, D.int.injEq, D.bl.injEq, D.lst.injEq, D.tup.injEq, D.str.injEq, D.dic.injEq, D.obj.injEq, bne_self_eq_false, Bool.bne_true, Bool.bne_false, ite_true, ite_false, exists_eq_left', exists_eq_left, exists_eq_right, exists_eq', exists_and_left, exists_const, or_false, false_or, and_true, true_and, and_false, false_and, if_true, if_false, Bool.false_eq_true]
      exact tl2_ok hp1 (by omega) ok fun d' hp' => h d' (hp'.mono (by omega))
    · rw [if_neg (by simp [e])]
      exact tl2_ok hp (by omega) ok fun d' hp' => h d' (hp'.mono (by omega))
  · rw [if_neg (by simp [c])]
    exact tl2_ok hp (by omega) ok fun d' hp' => h d' (hp'.mono (by omega))
theorem len_law (K : PySem.W.Frag) : ∀ ds P R, sp_law K ds P R → ds.length = 1 := fun _ _ _ ⟨_, e, _⟩ => by rw [e]; rfl
theorem pu_law (K : PySem.W.Frag) : ∀ ds (Po : D → D → Prop) (R : DX → D → Prop), sp_law K ds Po R → B_law K (en0 ["_law_script", "_law_pen_here", "_law_lap", "_law_lengths_here"] ds) { nx := fun _ => Po .non .non, rt := fun d _ => Po d .non, xe := fun y _ => R y .non } := by
  rintro ds Po R ⟨ns, rfl, hl, p⟩
  rw [law_eq]
  simp only [sSeq, sIf, sFor, sSet, sSetO, sRet, sRetN, sNx, sNo, sEx, sFz, sFq, sFldS, sSub, sApp, sExt, sDput, sDupd, sAsg, sParSS, sParSO, sParOS, sParOO, eV, eO, eC, eBin, eUn, eCall, eCallO', eCallO, eMake, eMeth, eCallR, eIf, eNot, eAnd, eOr, eTup, eLst, eIxO, ePop, eIndex, eD1, eSl, oNo, oIs, aNil, aCons, aStar, tV, uNot, uAnd, uOr, uYes, dI, dIs, DV.isNon, dLen, dTuple, dNeg, dMax2, dMin2, gN, gT, gsN, ownD, putO, putFD, en0, en1, own0, List.map_cons, List.map_nil, List.replicate, List.cons.injEq, Nat.sub_self, Nat.reduceSub, Nat.reduceAdd, Bool.not_true, Bool.not_false,  List.length_cons, List.length_nil, List.getElem?_cons_zero, List.getElem?_cons_succ, List.set_cons_zero, List.set_cons_succ, List.cons_append, List.nil_append, Option.some.injEq, Sl.s.injEq, Sl.o.injEq, Sl.m.injEq, reduceCtorEq, D.int.injEq, D.bl.injEq, D.lst.injEq, D.tup.injEq, D.str.injEq, D.dic.injEq, D.obj.injEq, bne_self_eq_false, Bool.bne_true, Bool.bne_false, ite_true, ite_false, exists_eq_left', exists_eq_left, exists_eq_right, exists_eq', exists_and_left, exists_const, or_false, false_or, and_true, true_and, and_false, false_and, if_true, if_false, Bool.false_eq_true]
  refine ⟨ns, rfl, hl, ?_⟩
  unfold iR1
  simp only [sSeq, sIf, sFor, sSet, sSetO, sRet, sRetN, sNx, sNo, sEx, sFz, sFq, sFldS, sSub, sApp, sExt, sDput, sDupd, sAsg, sParSS, sParSO, sParOS, sParOO, eV, eO, eC, eBin, eUn, eCall, eCallO', eCallO, eMake, eMeth, eCallR, eIf, eNot, eAnd, eOr, eTup, eLst, eIxO, ePop, eIndex, eD1, eSl, oNo, oIs, aNil, aCons, aStar, tV, uNot, uAnd, uOr, uYes, dI, dIs, DV.isNon, dLen, dTuple, dNeg, dMax2, dMin2, gN, gT, gsN, ownD, putO, putFD, en0, en1, own0, List.map_cons, List.map_nil, List.replicate, List.cons.injEq, Nat.sub_self, Nat.reduceSub, Nat.reduceAdd, Bool.not_true, Bool.not_false,  List.length_cons, List.length_nil, List.getElem?_cons_zero, List.getElem?_cons_succ, List.set_cons_zero, List.set_cons_succ, List.cons_append, List.nil_append, Option.some.injEq, Sl.s.injEq, Sl.o.injEq, Sl.m.injEq, reduceCtorEq, D.int.injEq, D.bl.injEq, D.lst.injEq, D.tup.injEq, D.str.injEq, D.dic.injEq, D.obj.injEq, bne_self_eq_false, Bool.bne_true, Bool.bne_false, ite_true, ite_false, exists_eq_left', exists_eq_left, exists_eq_right, exists_eq', exists_and_left, exists_const, or_false, false_or, and_true, true_and, and_false, false_and, if_true, if_false, Bool.false_eq_true]
  refine ⟨by decide, by decide, ?_⟩
  have e2 : rgD 0 (2 : Int).toNat = (rgI 2).map D.int := rgD_eq (n := 2)
  rw [e2]
  refine forD_ind (fun ys ρ => ∃ (k : Nat) (d : D) (z2 z3 : Sl), ρ = [.s (.scr ns), .o d, z2, z3] ∧ PenOk k d ∧ k + 100 * ys.length ≤ 1000) ?_ ?_ ⟨0, _, .e, .e, rfl, ⟨_, _, _, rfl, by rw [List.length_take]; omega, by decide, by decide, by decide⟩, by rw [rgI_len]; decide⟩
  · rintro ρ ⟨k, d, z2, z3, rfl, _⟩
    exact p
  · rintro y ys ρ ⟨k, d, z2, z3, rfl, hp, hk⟩ F hF
    rw [List.length_cons] at hk
    simp only [sSeq, sIf, sFor, sSet, sSetO, sRet, sRetN, sNx, sNo, sEx, sFz, sFq, sFldS, sSub, sApp, sExt, sDput, sDupd, sAsg, sParSS, sParSO, sParOS, sParOO, eV, eO, eC, eBin, eUn, eCall, eCallO', eCallO, eMake, eMeth, eCallR, eIf, eNot, eAnd, eOr, eTup, eLst, eIxO, ePop, eIndex, eD1, eSl, oNo, oIs, aNil, aCons, aStar, tV, uNot, uAnd, uOr, uYes, dI, dIs, DV.isNon, dLen, dTuple, dNeg, dMax2, dMin2, gN, gT, gsN, ownD, putO, putFD, en0, en1, own0, List.map_cons, List.map_nil, List.replicate, List.cons.injEq, Nat.sub_self, Nat.reduceSub, Nat.reduceAdd, Bool.not_true, Bool.not_false,  List.length_cons, List.length_nil, List.getElem?_cons_zero, List.getElem?_cons_succ, List.set_cons_zero, List.set_cons_succ, List.cons_append, List.nil_append, Option.some.injEq, Sl.s.injEq, Sl.o.injEq, Sl.m.injEq, reduceCtorEq, D.int.injEq, D.bl.injEq, D.lst.injEq, D.tup.injEq, D.str.injEq, D.dic.injEq, D.obj.injEq, bne_self_eq_false, Bool.bne_true, Bool.bne_false, ite_true, ite_false, exists_eq_left', exists_eq_left, exists_eq_right, exists_eq', exists_and_left, exists_const, or_false, false_or, and_true, true_and, and_false, false_and, if_true, if_false, Bool.false_eq_true]
    refine ⟨k, d, rfl, hp, by omega, fun L d1 ok hp1 => ?_⟩
    have h1 : ∀ x ∈ L, 1 ≤ x := fun x hx => (ok.b x hx).1
    have fin : ∀ d', PenOk (k + 60) d' → F [.s (.scr ns), .o d', .s (.int y), .s (dl L)] := fun d' hp' => hF _ ⟨k + 60, d', _, _, rfl, hp', by omega⟩
    simp only [sSeq, sIf, sFor, sSet, sSetO, sRet, sRetN, sNx, sNo, sEx, sFz, sFq, sFldS, sSub, sApp, sExt, sDput, sDupd, sAsg, sParSS, sParSO, sParOS, sParOO, eV, eO, eC, eBin, eUn, eCall, eCallO', eCallO, eMake, eMeth, eCallR, eIf, eNot, eAnd, eOr, eTup, eLst, eIxO, ePop, eIndex, eD1, eSl, oNo, oIs, aNil, aCons, aStar, tV, uNot, uAnd, uOr, uYes, dI, dIs, DV.isNon, dLen, dTuple, dNeg, dMax2, dMin2, gN, gT, gsN, ownD, putO, putFD, en0, en1, own0, List.map_cons, List.map_nil, List.replicate, List.cons.injEq, Nat.sub_self, Nat.reduceSub, Nat.reduceAdd, Bool.not_true, Bool.not_false,  List.length_cons, List.length_nil, List.getElem?_cons_zero, List.getElem?_cons_succ, List.set_cons_zero, List.set_cons_succ, List.cons_append, List.nil_append, Option.some.injEq, Sl.s.injEq, Sl.o.injEq, Sl.m.injEq, reduceCtorEq, D.int.injEq, D.bl.injEq, D.lst.injEq, D.tup.injEq, D.str.injEq, D.dic.injEq, D.obj.injEq, bne_self_eq_false, Bool.bne_true, Bool.bne_false, ite_true, ite_false, exists_eq_left', exists_eq_left, exists_eq_right, exists_eq', exists_and_left, exists_const, or_false, false_or, and_true, true_and, and_false, false_and, if_true, if_false, Bool.false_eq_true, dLen, List.length_map]
    by_cases c : (3 : Int) < (L.length : Int)
    · rw [if_pos (decide_eq_true c)]
      refine max_of (.inl rfl) h1 ok.ne ?_
      simp only [sSeq, sIf, sFor, sSet, sSetO, sRet, sRetN, sNx, sNo, sEx, sFz, sFq, sFldS, sSub, sApp, sExt, sDput, sDupd, sAsg, sParSS, sParSO, sParOS, sParOO, eV, eO, eC, eBin, eUn, eCall, eCallO', eCallO, eMake, eMeth, eCallR, eIf, eNot, eAnd, eOr, eTup, eLst, eIxO, ePop, eIndex, eD1, eSl, oNo, oIs, aNil, aCons, aStar, tV, uNot, uAnd, uOr, uYes, dI, dIs, DV.isNon, dLen, dTuple, dNeg, dMax2, dMin2, gN, gT, gsN, ownD, putO, putFD, en0, en1, own0, List.map_cons, List.map_nil, List.replicate, List.cons.injEq, Nat.sub_self, Nat.reduceSub, Nat.reduceAdd, Bool.not_true, Bool.not_false,  List.length_cons, List.length_nil, List.getElem?_cons_zero, List.getElem?_cons_succ, List.set_cons_zero, List.set_cons_succ, List.cons_append, List.nil_append, Option.some.injEq, Sl.s.injEq, Sl.o.injEq, Sl.m.injEq, reduceCtorEq, D.int.injEq, D.bl.injEq, D.lst.injEq, D.tup.injEq, D.str.injEq, D.dic.injEq, D.obj.injEq, bne_self_eq_false, Bool.bne_true, Bool.bne_false, ite_true, ite_false, exists_eq_left', exists_eq_left, exists_eq_right, exists_eq', exists_and_left, exists_const, or_false, false_or, and_true, true_and, and_false, false_and, if_true, if_false, Bool.false_eq_true]
      by_cases e : mx L ≤ 500000
      · rw [if_pos (decide_eq_true e)]
        refine ⟨k + 40, d1, L, rfl, hp1, by omega, ok, by omega, fun x hx => by have := mx_le hx; omega, fun d2 hp2 => ?_⟩
        simp only [sSeq, sIf, sFor, sSet, sSetO, sRet, sRetN, sNx, sNo, sEx, sFz, sFq, sFldS, sSub, sApp, sExt, sDput, sDupd, sAsg, sParSS, sParSO, sParOS, sParOO, eV, eO, eC, eBin, eUn, eCall, eCallO', eCallO, eMake, eMeth, eCallR, eIf, eNot, eAnd, eOr, eTup, eLst, eIxO, ePop, eIndex, eD1, eSl, oNo, oIs, aNil, aCons, aStar, tV, uNot, uAnd, uOr, uYes, dI, dIs, DV.isNon, dLen, dTuple, dNeg, dMax2, dMin2, gN, gT, gsN, ownD, putO, putFD, en0, en1, own0, List.map_cons, List.map_nil, List.replicate, List.cons.injEq, Nat.sub_self, Nat.reduceSub, Nat.reduceAdd, Bool.not_true, Bool.not_false,  List.length_cons, List.length_nil, List.getElem?_cons_zero, List.getElem?_cons_succ, List.set_cons_zero, List.set_cons_succ, List.cons_append, List.nil_append, Option.some.injEq, Sl.s.injEq, Sl.o.injEq, Sl.m.injEq, reduceCtorEq, D.int.injEq, D.bl.injEq, D.lst.injEq, D.tup.injEq, D.str.injEq, D.dic.injEq, D.obj.injEq, bne_self_eq_false, Bool.bne_true, Bool.bne_false, ite_true, ite_false, exists_eq_left', exists_eq_left, exists_eq_right, exists_eq', exists_and_left, exists_const, or_false, false_or, and_true, true_and, and_false, false_and, if_true, if_false, Bool.false_eq_true]
        exact tl1_ok hp2 (by omega) ok fun d' hp' => fin d' (hp'.mono (by omega))
      · rw [if_neg (by simp [e])]
        exact tl1_ok hp1 (by omega) ok fun d' hp' => fin d' (hp'.mono (by omega))
    · rw [if_neg (by simp [c])]
      exact tl1_ok hp1 (by omega) ok fun d' hp' => fin d' (hp'.mono (by omega))
theorem law_in (K : PySem.W.Frag) (ns : List Int) (hl : ns.length ≤ 63) (hb : ∀ z ∈ ns, PySem.Builtin.Int.intBits z ≤ 1048576) : sp_law K [.scr ns] (fun d _ => d = .bl true) (fun _ _ => False) := ⟨ns, rfl, hl, rfl⟩
end KT

set_option Elab.async false
set_option linter.all false
set_option maxRecDepth 100000
set_option maxHeartbeats 4000000
/-! Printed by a program of mine: the walks. -/
namespace KT
open PySem L2 DV PySem.Spec PyProof.Rows
def top (i : Nat) : Stmt := PySem.Challenge.pw_ringbars_k10_bars_put_together.main.body.getD i (.Pass ⟨0, 0, 0, 0⟩)
abbrev s_is_integer : Stmt := top 3
abbrev s_is_within : Stmt := top 4
abbrev s_are_lengths : Stmt := top 25
abbrev s_sums_of : Stmt := top 26
abbrev s_Ring_init : Stmt := inClass (top 27) 0
abbrev s_Ring_backwards : Stmt := inClass (top 27) 5
abbrev s_need_bar : Stmt := top 29
abbrev s_Ring_begun_at : Stmt := inClass (top 27) 4
abbrev s_is_numbers : Stmt := top 5
abbrev s_Ring_in_order : Stmt := inClass (top 27) 6
abbrev s__law_draw : Stmt := top 43
abbrev s__law_lots_anew : Stmt := top 51
abbrev s__law_mixed : Stmt := top 45
abbrev s_lots_of : Stmt := top 34
abbrev s_sort_in : Stmt := top 28
abbrev s_lots_sorted : Stmt := top 35
abbrev s_need_ring : Stmt := top 32
abbrev s_greatest_short : Stmt := top 40
abbrev s_less_by_one : Stmt := top 38
abbrev s_least_long : Stmt := top 39
abbrev s_level_lots : Stmt := top 37
abbrev s_short_lots : Stmt := top 36
abbrev s__law_anew_right : Stmt := top 52
abbrev s__law_lengths : Stmt := top 46
abbrev s__law_pen : Stmt := top 42
abbrev s_Ring_as_one : Stmt := inClass (top 27) 7
abbrev s_first_twice : Stmt := top 6
abbrev s_need_lot_of : Stmt := top 31
abbrev s_need_lot : Stmt := top 30
abbrev s_Ring_length_of : Stmt := inClass (top 27) 1
abbrev s_Ring_sort_of : Stmt := inClass (top 27) 2
abbrev s__law_lots : Stmt := top 47
abbrev s__law_sort : Stmt := top 48
abbrev s__law_together_right : Stmt := top 49
abbrev s_Ring_in_two : Stmt := inClass (top 27) 8
abbrev s__law_pick : Stmt := top 44
abbrev s__law_two_right : Stmt := top 50
abbrev s_law : Stmt := top 53
structure Tx (K : PySem.W.Frag) (mg : Str → Option Value) : Prop where
  g_Ring : mg "Ring" = some (.ref (He.ga K "Ring"))
  g__law_anew_right : mg "_law_anew_right" = some (.ref (He.ga K "_law_anew_right"))
  g__law_draw : mg "_law_draw" = some (.ref (He.ga K "_law_draw"))
  g__law_lengths : mg "_law_lengths" = some (.ref (He.ga K "_law_lengths"))
  g__law_lots : mg "_law_lots" = some (.ref (He.ga K "_law_lots"))
  g__law_lots_anew : mg "_law_lots_anew" = some (.ref (He.ga K "_law_lots_anew"))
  g__law_mixed : mg "_law_mixed" = some (.ref (He.ga K "_law_mixed"))
  g__law_pen : mg "_law_pen" = some (.ref (He.ga K "_law_pen"))
  g__law_pick : mg "_law_pick" = some (.ref (He.ga K "_law_pick"))
  g__law_sort : mg "_law_sort" = some (.ref (He.ga K "_law_sort"))
  g__law_together_right : mg "_law_together_right" = some (.ref (He.ga K "_law_together_right"))
  g__law_two_right : mg "_law_two_right" = some (.ref (He.ga K "_law_two_right"))
  g_are_lengths : mg "are_lengths" = some (.ref (He.ga K "are_lengths"))
  g_first_twice : mg "first_twice" = some (.ref (He.ga K "first_twice"))
  g_greatest_short : mg "greatest_short" = some (.ref (He.ga K "greatest_short"))
  g_is_integer : mg "is_integer" = some (.ref (He.ga K "is_integer"))
  g_is_numbers : mg "is_numbers" = some (.ref (He.ga K "is_numbers"))
  g_is_within : mg "is_within" = some (.ref (He.ga K "is_within"))
  g_least_long : mg "least_long" = some (.ref (He.ga K "least_long"))
  g_less_by_one : mg "less_by_one" = some (.ref (He.ga K "less_by_one"))
  g_level_lots : mg "level_lots" = some (.ref (He.ga K "level_lots"))
  g_lots_of : mg "lots_of" = some (.ref (He.ga K "lots_of"))
  g_lots_sorted : mg "lots_sorted" = some (.ref (He.ga K "lots_sorted"))
  g_need_bar : mg "need_bar" = some (.ref (He.ga K "need_bar"))
  g_need_lot : mg "need_lot" = some (.ref (He.ga K "need_lot"))
  g_need_lot_of : mg "need_lot_of" = some (.ref (He.ga K "need_lot_of"))
  g_need_ring : mg "need_ring" = some (.ref (He.ga K "need_ring"))
  g_short_lots : mg "short_lots" = some (.ref (He.ga K "short_lots"))
  g_sort_in : mg "sort_in" = some (.ref (He.ga K "sort_in"))
  g_sums_of : mg "sums_of" = some (.ref (He.ga K "sums_of"))
  b_abs : mg "abs" = none
  b_all : mg "all" = none
  b_any : mg "any" = none
  b_bool : mg "bool" = none
  b_enumerate : mg "enumerate" = none
  b_int : mg "int" = none
  b_isinstance : mg "isinstance" = none
  b_len : mg "len" = none
  b_list : mg "list" = none
  b_max : mg "max" = none
  b_range : mg "range" = none
  b_sorted : mg "sorted" = none
  b_sum : mg "sum" = none
  b_tuple : mg "tuple" = none
  i_LEAST_BARS : ∃ t, mg "LEAST_BARS" = some (.int 3 t)
  i_MOST_BARS : ∃ t, mg "MOST_BARS" = some (.int 8 t)
  i_MOST_LENGTH : ∃ t, mg "MOST_LENGTH" = some (.int 1000000 t)
  c_Ring : Cls K (He.ga K "Ring")
  n_Ring_closes : NoAttr K (He.ga K "Ring") "closes"
  n_Ring_is_clear : NoAttr K (He.ga K "Ring") "is_clear"
  n_Ring_lengths : NoAttr K (He.ga K "Ring") "lengths"
  n_Ring_total : NoAttr K (He.ga K "Ring") "total"
  m_Ring_as_one : Meth K (He.ga K "Ring") "as_one" (He.ma K (He.ga K "Ring") "as_one")
  m_Ring_backwards : Meth K (He.ga K "Ring") "backwards" (He.ma K (He.ga K "Ring") "backwards")
  m_Ring_begun_at : Meth K (He.ga K "Ring") "begun_at" (He.ma K (He.ga K "Ring") "begun_at")
  m_Ring_in_order : Meth K (He.ga K "Ring") "in_order" (He.ma K (He.ga K "Ring") "in_order")
  m_Ring_in_two : Meth K (He.ga K "Ring") "in_two" (He.ma K (He.ga K "Ring") "in_two")
  m_Ring_length_of : Meth K (He.ga K "Ring") "length_of" (He.ma K (He.ga K "Ring") "length_of")
  m_Ring_sort_of : Meth K (He.ga K "Ring") "sort_of" (He.ma K (He.ga K "Ring") "sort_of")
  mk_Ring : Mk K (He.ga K "Ring") (He.ma K (He.ga K "Ring") "__init__")
  is_Ring : IsC K (He.ga K "Ring")
section
variable {P : Program} {w : World} {K : PySem.W.Frag} {mg : Str → Option Value} {base : Heap} {fd : FuncData}
theorem sc_is_integer : FnScope ["value"] ["value"] (defScope s_is_integer) := ⟨rfl, rfl, rfl, by decide +kernel, rfl, by decide +kernel, by decide +kernel⟩
theorem ok_is_integer (T : Tx K mg) (F : Fun K "is_integer" "is_integer" s_is_integer (He.ga K "is_integer") fd) : FnOk P w K mg base (L2.CX P w) 1 (He.ga K "is_integer") fd ["value"] (spP K J1 (sp_is_integer K)) := by
  refine okP ok1 F sc_is_integer (len_is_integer K) fun cdv A outer s H E hr => ⟨B_is_integer K, ?_, pu_is_integer K⟩
  have h64 := hr.units
  have h65 : (A.deeper (PyProof.Rows.envOfC "is_integer" (defScope s_is_integer) s.heap.objs.size (He.ga K "is_integer") cdv)).units + 65 < cLine := by have := hr.un; omega
  have h67 : (A.deeper (PyProof.Rows.envOfC "is_integer" (defScope s_is_integer) s.heap.objs.size (He.ga K "is_integer") cdv)).units + 67 < cLine := by have := hr.un; omega
  have h1 : (A.deeper (PyProof.Rows.envOfC "is_integer" (defScope s_is_integer) s.heap.objs.size (He.ga K "is_integer") cdv)).units + 1 < cLine := by have := hr.un; omega
  exact (sd_one (sd_ret (ed_and (ed_isi T.b_isinstance (ed_var (pv 0)) (pe_bltn rfl T.b_int (by decide +kernel) rfl)) (ed_one (ed_not (ed_isi T.b_isinstance (ed_var (pv 0)) (pe_bltn rfl T.b_bool (by decide +kernel) rfl)))))))
theorem sc_is_within : FnScope ["value", "least", "most"] ["value", "least", "most"] (defScope s_is_within) := ⟨rfl, rfl, rfl, by decide +kernel, rfl, by decide +kernel, by decide +kernel⟩
theorem ok_is_within (T : Tx K mg) (o_is_integer : HP P w K mg base 1 (He.ga K "is_integer") ["value"] (spP K J1 (sp_is_integer K))) (F : Fun K "is_within" "is_within" s_is_within (He.ga K "is_within") fd) : FnOk P w K mg base (L2.CX P w) 2 (He.ga K "is_within") fd ["value", "least", "most"] (spP K J1 (sp_is_within K)) := by
  refine okP ok1 F sc_is_within (len_is_within K) fun cdv A outer s H E hr => ⟨B_is_within K, ?_, pu_is_within K⟩
  have h64 := hr.units
  have h65 : (A.deeper (PyProof.Rows.envOfC "is_within" (defScope s_is_within) s.heap.objs.size (He.ga K "is_within") cdv)).units + 65 < cLine := by have := hr.un; omega
  have h67 : (A.deeper (PyProof.Rows.envOfC "is_within" (defScope s_is_within) s.heap.objs.size (He.ga K "is_within") cdv)).units + 67 < cLine := by have := hr.un; omega
  have h1 : (A.deeper (PyProof.Rows.envOfC "is_within" (defScope s_is_within) s.heap.objs.size (He.ga K "is_within") cdv)).units + 1 < cLine := by have := hr.un; omega
  exact (sd_cons (sd_if (wd_or (td_not (td_val (eh_call o_is_integer (hr.mono (by decide)) T.g_is_integer (takes_of rfl rfl rfl rfl) (ad_cons (ed_var (pv 0)) ad_nil)))) (wd_or1 (wd_and (td_isn (ed_var (pv 1)) (ed_c pe_non fun _ _ => .non)) (wd_and1 (td_lt (ed_var (pv 0)) (ed_var (pv 1))))).pt)).pt (sd_one (sd_ret (ed_c pe_bl fun _ _ => .bl))) sd_nil) (sd_one (sd_ret (ed_or (ed_is (ed_var (pv 2)) (ed_c pe_non fun _ _ => .non)) (ed_one (ed_le (ed_var (pv 0)) (ed_var (pv 2))))))))
theorem sc_are_lengths : FnScope ["value", "length"] ["value"] (defScope s_are_lengths) := ⟨rfl, rfl, rfl, by decide +kernel, rfl, by decide +kernel, by decide +kernel⟩
theorem ok_are_lengths (T : Tx K mg) (o_is_within : HP P w K mg base 2 (He.ga K "is_within") ["value", "least", "most"] (spP K J1 (sp_is_within K))) (F : Fun K "are_lengths" "are_lengths" s_are_lengths (He.ga K "are_lengths") fd) : FnOk P w K mg base (L2.CX P w) 3 (He.ga K "are_lengths") fd ["value"] (spP K J1 (sp_are_lengths K)) := by
  refine okP ok1 F sc_are_lengths (len_are_lengths K) fun cdv A outer s H E hr => ⟨B_are_lengths K, ?_, pu_are_lengths K⟩
  have h64 := hr.units
  have h65 : (A.deeper (PyProof.Rows.envOfC "are_lengths" (defScope s_are_lengths) s.heap.objs.size (He.ga K "are_lengths") cdv)).units + 65 < cLine := by have := hr.un; omega
  have h67 : (A.deeper (PyProof.Rows.envOfC "are_lengths" (defScope s_are_lengths) s.heap.objs.size (He.ga K "are_lengths") cdv)).units + 67 < cLine := by have := hr.un; omega
  have h1 : (A.deeper (PyProof.Rows.envOfC "are_lengths" (defScope s_are_lengths) s.heap.objs.size (He.ga K "are_lengths") cdv)).units + 1 < cLine := by have := hr.un; omega
  exact (sd_one (sd_ret (ed_and (ed_isiT (As := tNil) (cs := [.ty "list", .ty "tuple"]) (us := [.type "list", .type "tuple"]) T.b_isinstance (ed_var (pv 0)) (pa_cons (pe_bltn (v := .ty "list") (u := .type "list") (by rfl) T.b_list (by decide +kernel) (by rfl)) (pa_cons (pe_bltn (v := .ty "tuple") (u := .type "tuple") (by rfl) T.b_tuple (by decide +kernel) (by rfl)) pa_nil)) (.cons (.ty _) (.cons (.ty _) .nil)) (by decide)) (ed_one (ed_all rfl T.b_all (ed_m (ed_f (ef_lc (own := [("length", 1)]) rfl sc_are_lengths.nd (id_lt (ed_var (pv 0))) (blkOk_by (by first | rfl | kernel_rfl)) (gd_name (by decide)) (fun _ _ _ _ _ => (pg_name (i := 1) sc_are_lengths.nd rfl (by first | exact .inl rfl | exact .inr rfl))) (fun _ _ _ _ _ => tds_nil) (fun _ _ _ _ _ => (eh_call o_is_within (hr.mono (by decide)) T.g_is_within takes0 (ad_cons (ed_var (pv 1)) (ad_cons (ed_c pe_int fun _ _ => .int) (ad_cons (ed_gi T.i_MOST_LENGTH) ad_nil)))))))))))))
theorem sc_sums_of : FnScope ["lengths", "found", "length", "one"] ["lengths"] (defScope s_sums_of) := ⟨rfl, rfl, rfl, by decide +kernel, rfl, by decide +kernel, by decide +kernel⟩
theorem ok_sums_of (T : Tx K mg) (F : Fun K "sums_of" "sums_of" s_sums_of (He.ga K "sums_of") fd) : FnOk P w K mg base (L2.CX P w) 1 (He.ga K "sums_of") fd ["lengths"] (spP K J1 (sp_sums_of K)) := by
  refine okP ok1 F sc_sums_of (len_sums_of K) fun cdv A outer s H E hr => ⟨B_sums_of K, ?_, pu_sums_of K⟩
  have h64 := hr.units
  have h65 : (A.deeper (PyProof.Rows.envOfC "sums_of" (defScope s_sums_of) s.heap.objs.size (He.ga K "sums_of") cdv)).units + 65 < cLine := by have := hr.un; omega
  have h67 : (A.deeper (PyProof.Rows.envOfC "sums_of" (defScope s_sums_of) s.heap.objs.size (He.ga K "sums_of") cdv)).units + 67 < cLine := by have := hr.un; omega
  have h1 : (A.deeper (PyProof.Rows.envOfC "sums_of" (defScope s_sums_of) s.heap.objs.size (He.ga K "sums_of") cdv)).units + 1 < cLine := by have := hr.un; omega
  exact (sd_cons (sd_setO (i := 1) sc_sums_of.nd (ef_d1 (ed_c pe_int fun _ _ => .int) (ed_c pe_bl fun _ _ => .bl))) (sd_cons (sd_for (vs := [2]) (passes_of rfl) rfl (id_lt (ed_var (pv 0))) (pg_name (i := 2) sc_sums_of.nd rfl (by first | exact .inl rfl | exact .inr rfl)) (gd_name (by decide)) (sd_one (sd_dupd (pv 1) (ed_f (ef_dc (own := [("one", 3)]) rfl sc_sums_of.nd (id_lt (ed_f (ef_list rfl T.b_list (em_var (pv 1))))) (blkOk_by (by first | rfl | kernel_rfl)) (gd_name (by decide)) (fun _ _ _ _ _ => (pg_name (i := 3) sc_sums_of.nd rfl (by first | exact .inl rfl | exact .inr rfl))) (fun _ _ _ _ _ => tds_nil) (fun _ _ _ _ _ => (ed_add (ed_var (pv 3)) (ed_var (pv 2)))) (fun _ _ _ _ _ => (ed_c pe_bl fun _ _ => .bl))))))) (sds_fz (i := 1) (sd_one (sd_ret (ed_var (pv 1)))))))
theorem sc_Ring_init : FnScope ["self", "lengths"] ["self", "lengths"] (defScope s_Ring_init) := ⟨rfl, rfl, rfl, by decide +kernel, rfl, by decide +kernel, by decide +kernel⟩
theorem ok_Ring_init (T : Tx K mg) (o_are_lengths : HP P w K mg base 3 (He.ga K "are_lengths") ["value"] (spP K J1 (sp_are_lengths K))) (o_sums_of : HP P w K mg base 1 (He.ga K "sums_of") ["lengths"] (spP K J1 (sp_sums_of K))) (F : Fun K "__init__" "Ring.__init__" s_Ring_init (He.ma K (He.ga K "Ring") "__init__") fd) : FnOk P w K mg base (L2.CX P w) 4 (He.ma K (He.ga K "Ring") "__init__") fd ["self", "lengths"] (spO K J1 (sp_Ring_init K)) := by
  refine okO ok1 F sc_Ring_init (len_Ring_init K) fun cdv A outer s H E hr => ⟨B_Ring_init K, ?_, pu_Ring_init K⟩
  have h64 := hr.units
  have h65 : (A.deeper (PyProof.Rows.envOfC "Ring.__init__" (defScope s_Ring_init) s.heap.objs.size (He.ma K (He.ga K "Ring") "__init__") cdv)).units + 65 < cLine := by have := hr.un; omega
  have h67 : (A.deeper (PyProof.Rows.envOfC "Ring.__init__" (defScope s_Ring_init) s.heap.objs.size (He.ma K (He.ga K "Ring") "__init__") cdv)).units + 67 < cLine := by have := hr.un; omega
  have h1 : (A.deeper (PyProof.Rows.envOfC "Ring.__init__" (defScope s_Ring_init) s.heap.objs.size (He.ma K (He.ga K "Ring") "__init__") cdv)).units + 1 < cLine := by have := hr.un; omega
  exact (sd_cons (sd_if (td_not (td_val (eh_call o_are_lengths (hr.mono (by decide)) T.g_are_lengths (takes_of rfl rfl rfl rfl) (ad_cons (ed_var (pv 1)) ad_nil)))) (sd_one sd_no) sd_nil) (sd_cons (sd_if (td_lt (ed_len T.b_len (em_var (pv 1))) (ed_gi T.i_LEAST_BARS)) (sd_one sd_no) sd_nil) (sd_cons (sd_if (td_gt (ed_len T.b_len (em_var (pv 1))) (ed_gi T.i_MOST_BARS)) (sd_one sd_no) sd_nil) (sd_cons (sd_fld T.c_Ring T.n_Ring_lengths (pv 0) (ed_tuple T.b_tuple (em_var (pv 1)))) (sd_cons (sd_fld T.c_Ring T.n_Ring_total (pv 0) (ed_sum rfl T.b_sum (em_var (pv 1)))) (sd_cons (sd_fld T.c_Ring T.n_Ring_closes (pv 0) (ed_le (ed_mul (ed_c pe_int fun _ _ => .int) (ed_max rfl h64 T.b_max (em_var (pv 1)))) (ed_fld T.c_Ring T.n_Ring_total (em_var (pv 0))))) (sd_one (sd_fld T.c_Ring T.n_Ring_is_clear (pv 0) (ed_or (ed_eq h64 (ed_mod (ed_fld T.c_Ring T.n_Ring_total (em_var (pv 0))) (ed_c pe_int fun _ _ => .int)) (ed_m (ed_c pe_int fun _ _ => .int))) (ed_one (ed_notIn h65 (ed_fdiv (ed_fld T.c_Ring T.n_Ring_total (em_var (pv 0))) (ed_c pe_int fun _ _ => .int)) (ed_m (eh_call o_sums_of (hr.mono (by decide)) T.g_sums_of (takes_of rfl rfl rfl rfl) (ad_cons (ed_var (pv 1)) ad_nil))))))))))))))
theorem sc_Ring_backwards : FnScope ["self"] ["self"] (defScope s_Ring_backwards) := ⟨rfl, rfl, rfl, by decide +kernel, rfl, by decide +kernel, by decide +kernel⟩
theorem ok_Ring_backwards (T : Tx K mg) (o_Ring_init : HP P w K mg base 4 (He.ma K (He.ga K "Ring") "__init__") ["self", "lengths"] (spO K J1 (sp_Ring_init K))) (F : Fun K "backwards" "Ring.backwards" s_Ring_backwards (He.ma K (He.ga K "Ring") "backwards") fd) : FnOk P w K mg base (L2.CX P w) 6 (He.ma K (He.ga K "Ring") "backwards") fd ["self"] (spP K J1 (sp_Ring_backwards K)) := by
  refine okP ok1 F sc_Ring_backwards (len_Ring_backwards K) fun cdv A outer s H E hr => ⟨B_Ring_backwards K, ?_, pu_Ring_backwards K⟩
  have h64 := hr.units
  have h65 : (A.deeper (PyProof.Rows.envOfC "Ring.backwards" (defScope s_Ring_backwards) s.heap.objs.size (He.ma K (He.ga K "Ring") "backwards") cdv)).units + 65 < cLine := by have := hr.un; omega
  have h67 : (A.deeper (PyProof.Rows.envOfC "Ring.backwards" (defScope s_Ring_backwards) s.heap.objs.size (He.ma K (He.ga K "Ring") "backwards") cdv)).units + 67 < cLine := by have := hr.un; omega
  have h1 : (A.deeper (PyProof.Rows.envOfC "Ring.backwards" (defScope s_Ring_backwards) s.heap.objs.size (He.ma K (He.ga K "Ring") "backwards") cdv)).units + 1 < cLine := by have := hr.un; omega
  exact (sd_one (sd_ret (eh_make T.mk_Ring o_Ring_init (hr.mono (by decide)) T.g_Ring (takes_of rfl rfl rfl rfl) (fun _ _ _ _ _ h => h) (ad_cons (ed_add (ed_slT (ed_fld T.c_Ring T.n_Ring_lengths (em_var (pv 0))) od_no (od_is1 (ed_c pe_int fun _ _ => .int))) (ed_back (ed_fld T.c_Ring T.n_Ring_lengths (em_var (pv 0))))) ad_nil))))
theorem sc_need_bar : FnScope ["ring", "value"] ["ring", "value"] (defScope s_need_bar) := ⟨rfl, rfl, rfl, by decide +kernel, rfl, by decide +kernel, by decide +kernel⟩
theorem ok_need_bar (T : Tx K mg) (o_is_within : HP P w K mg base 2 (He.ga K "is_within") ["value", "least", "most"] (spP K J1 (sp_is_within K))) (F : Fun K "need_bar" "need_bar" s_need_bar (He.ga K "need_bar") fd) : FnOk P w K mg base (L2.CX P w) 3 (He.ga K "need_bar") fd ["ring", "value"] (spP K J1 (sp_need_bar K)) := by
  refine okP ok1 F sc_need_bar (len_need_bar K) fun cdv A outer s H E hr => ⟨B_need_bar K, ?_, pu_need_bar K⟩
  have h64 := hr.units
  have h65 : (A.deeper (PyProof.Rows.envOfC "need_bar" (defScope s_need_bar) s.heap.objs.size (He.ga K "need_bar") cdv)).units + 65 < cLine := by have := hr.un; omega
  have h67 : (A.deeper (PyProof.Rows.envOfC "need_bar" (defScope s_need_bar) s.heap.objs.size (He.ga K "need_bar") cdv)).units + 67 < cLine := by have := hr.un; omega
  have h1 : (A.deeper (PyProof.Rows.envOfC "need_bar" (defScope s_need_bar) s.heap.objs.size (He.ga K "need_bar") cdv)).units + 1 < cLine := by have := hr.un; omega
  exact (sd_one (sd_if (td_not (td_val (eh_call o_is_within (hr.mono (by decide)) T.g_is_within (takes_of rfl rfl rfl rfl) (ad_cons (ed_var (pv 1)) (ad_cons (ed_c pe_int fun _ _ => .int) (ad_cons (ed_sub (ed_len T.b_len (ed_m (ed_fld T.c_Ring T.n_Ring_lengths (em_var (pv 0))))) (ed_c pe_int fun _ _ => .int)) ad_nil)))))) (sd_one sd_no) sd_nil))
theorem sc_Ring_begun_at : FnScope ["self", "bar"] ["self", "bar"] (defScope s_Ring_begun_at) := ⟨rfl, rfl, rfl, by decide +kernel, rfl, by decide +kernel, by decide +kernel⟩
theorem ok_Ring_begun_at (T : Tx K mg) (o_Ring_init : HP P w K mg base 4 (He.ma K (He.ga K "Ring") "__init__") ["self", "lengths"] (spO K J1 (sp_Ring_init K))) (o_need_bar : HP P w K mg base 3 (He.ga K "need_bar") ["ring", "value"] (spP K J1 (sp_need_bar K))) (F : Fun K "begun_at" "Ring.begun_at" s_Ring_begun_at (He.ma K (He.ga K "Ring") "begun_at") fd) : FnOk P w K mg base (L2.CX P w) 6 (He.ma K (He.ga K "Ring") "begun_at") fd ["self", "bar"] (spP K J1 (sp_Ring_begun_at K)) := by
  refine okP ok1 F sc_Ring_begun_at (len_Ring_begun_at K) fun cdv A outer s H E hr => ⟨B_Ring_begun_at K, ?_, pu_Ring_begun_at K⟩
  have h64 := hr.units
  have h65 : (A.deeper (PyProof.Rows.envOfC "Ring.begun_at" (defScope s_Ring_begun_at) s.heap.objs.size (He.ma K (He.ga K "Ring") "begun_at") cdv)).units + 65 < cLine := by have := hr.un; omega
  have h67 : (A.deeper (PyProof.Rows.envOfC "Ring.begun_at" (defScope s_Ring_begun_at) s.heap.objs.size (He.ma K (He.ga K "Ring") "begun_at") cdv)).units + 67 < cLine := by have := hr.un; omega
  have h1 : (A.deeper (PyProof.Rows.envOfC "Ring.begun_at" (defScope s_Ring_begun_at) s.heap.objs.size (He.ma K (He.ga K "Ring") "begun_at") cdv)).units + 1 < cLine := by have := hr.un; omega
  exact (sd_cons (sd_expr (eh_call o_need_bar (hr.mono (by decide)) T.g_need_bar (takes_of rfl rfl rfl rfl) (ad_cons (ed_var (pv 0)) (ad_cons (ed_var (pv 1)) ad_nil)))) (sd_one (sd_ret (eh_make T.mk_Ring o_Ring_init (hr.mono (by decide)) T.g_Ring (takes_of rfl rfl rfl rfl) (fun _ _ _ _ _ h => h) (ad_cons (ed_add (ed_slT (ed_fld T.c_Ring T.n_Ring_lengths (em_var (pv 0))) (od_is1 (ed_var (pv 1))) od_no) (ed_slT (ed_fld T.c_Ring T.n_Ring_lengths (em_var (pv 0))) od_no (od_is1 (ed_var (pv 1))))) ad_nil)))))
theorem sc_is_numbers : FnScope ["value", "part"] ["value"] (defScope s_is_numbers) := ⟨rfl, rfl, rfl, by decide +kernel, rfl, by decide +kernel, by decide +kernel⟩
theorem ok_is_numbers (T : Tx K mg) (o_is_integer : HP P w K mg base 1 (He.ga K "is_integer") ["value"] (spP K J1 (sp_is_integer K))) (F : Fun K "is_numbers" "is_numbers" s_is_numbers (He.ga K "is_numbers") fd) : FnOk P w K mg base (L2.CX P w) 2 (He.ga K "is_numbers") fd ["value"] (spP K J1 (sp_is_numbers K)) := by
  refine okP ok1 F sc_is_numbers (len_is_numbers K) fun cdv A outer s H E hr => ⟨B_is_numbers K, ?_, pu_is_numbers K⟩
  have h64 := hr.units
  have h65 : (A.deeper (PyProof.Rows.envOfC "is_numbers" (defScope s_is_numbers) s.heap.objs.size (He.ga K "is_numbers") cdv)).units + 65 < cLine := by have := hr.un; omega
  have h67 : (A.deeper (PyProof.Rows.envOfC "is_numbers" (defScope s_is_numbers) s.heap.objs.size (He.ga K "is_numbers") cdv)).units + 67 < cLine := by have := hr.un; omega
  have h1 : (A.deeper (PyProof.Rows.envOfC "is_numbers" (defScope s_is_numbers) s.heap.objs.size (He.ga K "is_numbers") cdv)).units + 1 < cLine := by have := hr.un; omega
  exact (sd_one (sd_ret (ed_and (ed_isiT (As := tNil) (cs := [.ty "list", .ty "tuple"]) (us := [.type "list", .type "tuple"]) T.b_isinstance (ed_var (pv 0)) (pa_cons (pe_bltn (v := .ty "list") (u := .type "list") (by rfl) T.b_list (by decide +kernel) (by rfl)) (pa_cons (pe_bltn (v := .ty "tuple") (u := .type "tuple") (by rfl) T.b_tuple (by decide +kernel) (by rfl)) pa_nil)) (.cons (.ty _) (.cons (.ty _) .nil)) (by decide)) (ed_one (ed_all rfl T.b_all (ed_m (ed_f (ef_lc (own := [("part", 1)]) rfl sc_is_numbers.nd (id_lt (ed_var (pv 0))) (blkOk_by (by first | rfl | kernel_rfl)) (gd_name (by decide)) (fun _ _ _ _ _ => (pg_name (i := 1) sc_is_numbers.nd rfl (by first | exact .inl rfl | exact .inr rfl))) (fun _ _ _ _ _ => tds_nil) (fun _ _ _ _ _ => (eh_call o_is_integer (hr.mono (by decide)) T.g_is_integer takes0 (ad_cons (ed_var (pv 1)) ad_nil)))))))))))
theorem sc_Ring_in_order : FnScope ["self", "order", "bar"] ["self", "order"] (defScope s_Ring_in_order) := ⟨rfl, rfl, rfl, by decide +kernel, rfl, by decide +kernel, by decide +kernel⟩
theorem ok_Ring_in_order (T : Tx K mg) (o_Ring_init : HP P w K mg base 4 (He.ma K (He.ga K "Ring") "__init__") ["self", "lengths"] (spO K J1 (sp_Ring_init K))) (o_is_numbers : HP P w K mg base 2 (He.ga K "is_numbers") ["value"] (spP K J1 (sp_is_numbers K))) (F : Fun K "in_order" "Ring.in_order" s_Ring_in_order (He.ma K (He.ga K "Ring") "in_order") fd) : FnOk P w K mg base (L2.CX P w) 6 (He.ma K (He.ga K "Ring") "in_order") fd ["self", "order"] (spP K J1 (sp_Ring_in_order K)) := by
  refine okP ok1 F sc_Ring_in_order (len_Ring_in_order K) fun cdv A outer s H E hr => ⟨B_Ring_in_order K, ?_, pu_Ring_in_order K⟩
  have h64 := hr.units
  have h65 : (A.deeper (PyProof.Rows.envOfC "Ring.in_order" (defScope s_Ring_in_order) s.heap.objs.size (He.ma K (He.ga K "Ring") "in_order") cdv)).units + 65 < cLine := by have := hr.un; omega
  have h67 : (A.deeper (PyProof.Rows.envOfC "Ring.in_order" (defScope s_Ring_in_order) s.heap.objs.size (He.ma K (He.ga K "Ring") "in_order") cdv)).units + 67 < cLine := by have := hr.un; omega
  have h1 : (A.deeper (PyProof.Rows.envOfC "Ring.in_order" (defScope s_Ring_in_order) s.heap.objs.size (He.ma K (He.ga K "Ring") "in_order") cdv)).units + 1 < cLine := by have := hr.un; omega
  exact (sd_cons (sd_if (wd_or (td_not (td_val (eh_call o_is_numbers (hr.mono (by decide)) T.g_is_numbers (takes_of rfl rfl rfl rfl) (ad_cons (ed_var (pv 1)) ad_nil)))) (wd_or1 (td_ne h64 (ed_f (ef_sorted T.b_sorted (em_var (pv 1)))) (ed_m (ed_f (ef_listR rfl T.b_list T.b_range (ed_len T.b_len (ed_m (ed_fld T.c_Ring T.n_Ring_lengths (em_var (pv 0))))))))))).pt (sd_one sd_no) sd_nil) (sd_one (sd_ret (eh_make T.mk_Ring o_Ring_init (hr.mono (by decide)) T.g_Ring (takes_of rfl rfl rfl rfl) (fun _ _ _ _ _ h => h) (ad_cons (ed_f (ef_lc (own := [("bar", 2)]) rfl sc_Ring_in_order.nd (id_lt (ed_var (pv 1))) (blkOk_by (by first | rfl | kernel_rfl)) (gd_name (by decide)) (fun _ _ _ _ _ => (pg_name (i := 2) sc_Ring_in_order.nd rfl (by first | exact .inl rfl | exact .inr rfl))) (fun _ _ _ _ _ => tds_nil) (fun _ _ _ _ _ => (ed_ix (ed_fld T.c_Ring T.n_Ring_lengths (em_var (pv 0))) (ed_var (pv 2)))))) ad_nil)))))
theorem sc__law_draw : FnScope ["_law_pen_here", "_law_many", "_law_digit", "_law_at", "_law_cell", "_law_great", "_law_mixed_here"] ["_law_pen_here", "_law_many"] (defScope s__law_draw) := ⟨rfl, rfl, rfl, by decide +kernel, rfl, by decide +kernel, by decide +kernel⟩
theorem ok__law_draw (T : Tx K mg) (F : Fun K "_law_draw" "_law_draw" s__law_draw (He.ga K "_law_draw") fd) : FnOk P w K mg base (L2.CX P w) 1 (He.ga K "_law_draw") fd ["_law_pen_here", "_law_many"] (spO K J1 (sp__law_draw K)) := by
  refine okO ok1 F sc__law_draw (len__law_draw K) fun cdv A outer s H E hr => ⟨B__law_draw K, ?_, pu__law_draw K⟩
  have h64 := hr.units
  have h65 : (A.deeper (PyProof.Rows.envOfC "_law_draw" (defScope s__law_draw) s.heap.objs.size (He.ga K "_law_draw") cdv)).units + 65 < cLine := by have := hr.un; omega
  have h67 : (A.deeper (PyProof.Rows.envOfC "_law_draw" (defScope s__law_draw) s.heap.objs.size (He.ga K "_law_draw") cdv)).units + 67 < cLine := by have := hr.un; omega
  have h1 : (A.deeper (PyProof.Rows.envOfC "_law_draw" (defScope s__law_draw) s.heap.objs.size (He.ga K "_law_draw") cdv)).units + 1 < cLine := by have := hr.un; omega
  exact (sd_cons (sd_if (td_gt (ed_ixO (pv 0) (ed_c pe_int fun _ _ => .int)) (ed_c pe_int fun _ _ => .int)) (sd_cons (sd_set (i := 2) sc__law_draw.nd (ed_mod (ed_intc T.b_int (ed_m (ed_ixO (pv 0) (ed_c pe_int fun _ _ => .int)))) (ed_var (pv 1)))) (sd_cons (sd_sub (ed_fdiv (ed_intc T.b_int (ed_m (ed_ixO (pv 0) (ed_c pe_int fun _ _ => .int)))) (ed_var (pv 1))) (pv 0) (ed_c pe_int fun _ _ => .int)) (sd_one (sd_ret (ed_var (pv 2)))))) sd_nil) (sd_cons (sd_set (i := 3) sc__law_draw.nd (ed_ixO (pv 0) (ed_c pe_int fun _ _ => .int))) (sd_cons (sd_sub (ed_add (ed_var (pv 3)) (ed_c pe_int fun _ _ => .int)) (pv 0) (ed_c pe_int fun _ _ => .int)) (sd_cons (sd_set (i := 4) sc__law_draw.nd (ed_add (ed_mul (ed_c pe_int fun _ _ => .int) (ed_var (pv 3))) (ed_c pe_int fun _ _ => .int))) (sd_cons (sd_if (td_ne h64 (ed_ixO (pv 0) (ed_c pe_int fun _ _ => .int)) (ed_m (ed_f (ef_lst ad_nil)))) (sd_one (sd_set (i := 4) sc__law_draw.nd (ed_ix (ed_ixO (pv 0) (ed_c pe_int fun _ _ => .int)) (ed_mod (ed_intc T.b_int (em_var (pv 3))) (ed_len T.b_len (ed_m (ed_ixO (pv 0) (ed_c pe_int fun _ _ => .int)))))))) sd_nil) (sd_cons (sd_if (wd_and (td_lt (ed_var (pv 3)) (ed_len T.b_len (ed_m (ed_ixO (pv 0) (ed_c pe_int fun _ _ => .int))))) (wd_and1 (td_ge (ed_abs T.b_abs (em_var (pv 4))) (ed_pow (ed_c pe_int fun _ _ => .int) (ed_c pe_int fun _ _ => .int))))).pt (sd_cons (sd_set (i := 5) sc__law_draw.nd (ed_add (ed_mul (ed_c pe_int fun _ _ => .int) (ed_sub (ed_abs T.b_abs (em_var (pv 4))) (ed_pow (ed_c pe_int fun _ _ => .int) (ed_c pe_int fun _ _ => .int)))) (ed_intc T.b_int (ed_m (ed_lt (ed_var (pv 4)) (ed_c pe_int fun _ _ => .int)))))) (sd_cons (sd_sub (ed_fdiv (ed_intc T.b_int (em_var (pv 5))) (ed_var (pv 1))) (pv 0) (ed_c pe_int fun _ _ => .int)) (sd_one (sd_ret (ed_mod (ed_intc T.b_int (em_var (pv 5))) (ed_var (pv 1))))))) sd_nil) (sd_cons (sd_set (i := 6) sc__law_draw.nd (ed_mod (ed_intc T.b_int (ed_m (ed_pow (ed_add (ed_add (ed_mod (ed_intc T.b_int (em_var (pv 4))) (ed_c pe_int fun _ _ => .int)) (ed_mul (ed_c pe_int fun _ _ => .int) (ed_var (pv 3)))) (ed_c pe_int fun _ _ => .int)) (ed_c pe_int fun _ _ => .int)))) (ed_c pe_int fun _ _ => .int))) (sd_cons (sd_set (i := 6) sc__law_draw.nd (ed_mod (ed_intc T.b_int (ed_m (ed_pow (ed_add (ed_add (ed_mul (ed_var (pv 6)) (ed_add (ed_mul (ed_c pe_int fun _ _ => .int) (ed_var (pv 3))) (ed_c pe_int fun _ _ => .int))) (ed_mul (ed_mul (ed_c pe_int fun _ _ => .int) (ed_var (pv 3))) (ed_var (pv 3)))) (ed_c pe_int fun _ _ => .int)) (ed_c pe_int fun _ _ => .int)))) (ed_c pe_int fun _ _ => .int))) (sd_one (sd_ret (ed_mod (ed_intc T.b_int (ed_m (ed_fdiv (ed_var (pv 6)) (ed_c pe_int fun _ _ => .int)))) (ed_var (pv 1)))))))))))))
theorem sc__law_lots_anew : FnScope ["_law_lots_here", "_law_order", "_law_found", "_law_lot", "_law_bar", "_law_size"] ["_law_lots_here", "_law_order"] (defScope s__law_lots_anew) := ⟨rfl, rfl, rfl, by decide +kernel, rfl, by decide +kernel, by decide +kernel⟩
theorem ok__law_lots_anew (T : Tx K mg) (F : Fun K "_law_lots_anew" "_law_lots_anew" s__law_lots_anew (He.ga K "_law_lots_anew") fd) : FnOk P w K mg base (L2.CX P w) 1 (He.ga K "_law_lots_anew") fd ["_law_lots_here", "_law_order"] (spP K J1 (sp__law_lots_anew K)) := by
  refine okP ok1 F sc__law_lots_anew (len__law_lots_anew K) fun cdv A outer s H E hr => ⟨B__law_lots_anew K, ?_, pu__law_lots_anew K⟩
  have h64 := hr.units
  have h65 : (A.deeper (PyProof.Rows.envOfC "_law_lots_anew" (defScope s__law_lots_anew) s.heap.objs.size (He.ga K "_law_lots_anew") cdv)).units + 65 < cLine := by have := hr.un; omega
  have h67 : (A.deeper (PyProof.Rows.envOfC "_law_lots_anew" (defScope s__law_lots_anew) s.heap.objs.size (He.ga K "_law_lots_anew") cdv)).units + 67 < cLine := by have := hr.un; omega
  have h1 : (A.deeper (PyProof.Rows.envOfC "_law_lots_anew" (defScope s__law_lots_anew) s.heap.objs.size (He.ga K "_law_lots_anew") cdv)).units + 1 < cLine := by have := hr.un; omega
  exact (sd_cons (sd_setLc (own := [("_law_lot", 3)]) (i := 2) rfl sc__law_lots_anew.nd (sw_true rfl rfl (by rfl) (by first | rfl | kernel_rfl)) (id_lt (ed_var (pv 0))) (blkOk_by (by first | rfl | kernel_rfl)) (gd_name (by decide)) (fun _ _ _ _ _ => (pg_name (i := 3) sc__law_lots_anew.nd rfl (by first | exact .inl rfl | exact .inr rfl))) (fun _ _ _ _ _ => tds_nil) (fun _ _ _ _ _ => (ed_tuple T.b_tuple (ed_m (ed_f (ef_sorted T.b_sorted (ed_m (ed_f (ef_lc (own := [("_law_bar", 4)]) rfl sc__law_lots_anew.nd (id_lt (ed_var (pv 3))) (blkOk_by (by first | rfl | kernel_rfl)) (gd_name (by decide)) (fun _ _ _ _ _ => (pg_name (i := 4) sc__law_lots_anew.nd rfl (by first | exact .inl rfl | exact .inr rfl))) (fun _ _ _ _ _ => tds_nil) (fun _ _ _ _ _ => (ed_index (ed_var (pv 1)) (ed_var (pv 4))))))))))))) (sd_one (sd_ret (ed_tuple T.b_tuple (ed_m (ed_f (ef_lc (own := [("_law_size", 5), ("_law_lot", 3)]) rfl sc__law_lots_anew.nd (id_lt (ed_f (ef_sortP h67 T.b_sorted (ed_m (ed_f (ef_lc (own := [("_law_lot", 3)]) rfl sc__law_lots_anew.nd (id_lt (ed_var (pv 2))) (blkOk_by (by first | rfl | kernel_rfl)) (gd_name (by decide)) (fun _ _ _ _ _ => (pg_name (i := 3) sc__law_lots_anew.nd rfl (by first | exact .inl rfl | exact .inr rfl))) (fun _ _ _ _ _ => tds_nil) (fun _ _ _ _ _ => (ed_tup (ad_cons (ed_len T.b_len (em_var (pv 3))) (ad_cons (ed_var (pv 3)) ad_nil)))))))))) (blkOk_by (by first | rfl | kernel_rfl)) (gd_tup (is := [5, 3]) rfl (by decide)) (fun _ _ _ _ _ => (pg_tup rfl (pgs_cons (pg_name (i := 5) sc__law_lots_anew.nd rfl (by first | exact .inl rfl | exact .inr rfl)) (pgs_cons (pg_name (i := 3) sc__law_lots_anew.nd rfl (by first | exact .inl rfl | exact .inr rfl)) pgs_nil)))) (fun _ _ _ _ _ => tds_nil) (fun _ _ _ _ _ => (ed_var (pv 3))))))))))
theorem sc__law_mixed : FnScope ["_law_pen_here", "_law_items", "_law_left", "_law_found", "_law_turn"] ["_law_pen_here", "_law_items"] (defScope s__law_mixed) := ⟨rfl, rfl, rfl, by decide +kernel, rfl, by decide +kernel, by decide +kernel⟩
theorem ok__law_mixed (T : Tx K mg) (o__law_draw : HP P w K mg base 1 (He.ga K "_law_draw") ["_law_pen_here", "_law_many"] (spO K J1 (sp__law_draw K))) (F : Fun K "_law_mixed" "_law_mixed" s__law_mixed (He.ga K "_law_mixed") fd) : FnOk P w K mg base (L2.CX P w) 2 (He.ga K "_law_mixed") fd ["_law_pen_here", "_law_items"] (spO K J1 (sp__law_mixed K)) := by
  refine okO ok1 F sc__law_mixed (len__law_mixed K) fun cdv A outer s H E hr => ⟨B__law_mixed K, ?_, pu__law_mixed K⟩
  have h64 := hr.units
  have h65 : (A.deeper (PyProof.Rows.envOfC "_law_mixed" (defScope s__law_mixed) s.heap.objs.size (He.ga K "_law_mixed") cdv)).units + 65 < cLine := by have := hr.un; omega
  have h67 : (A.deeper (PyProof.Rows.envOfC "_law_mixed" (defScope s__law_mixed) s.heap.objs.size (He.ga K "_law_mixed") cdv)).units + 67 < cLine := by have := hr.un; omega
  have h1 : (A.deeper (PyProof.Rows.envOfC "_law_mixed" (defScope s__law_mixed) s.heap.objs.size (He.ga K "_law_mixed") cdv)).units + 1 < cLine := by have := hr.un; omega
  exact (sd_cons (sd_parOO (i := 2) (j := 3) rfl sc__law_mixed.nd (ef_list rfl T.b_list (em_var (pv 1))) (ef_lst ad_nil)) (sd_cons (sd_for (vs := [4]) (passes_of rfl) rfl (id_r1 T.b_range (ed_len T.b_len (em_var (pv 1)))) (pg_name (i := 4) sc__law_mixed.nd rfl (by first | exact .inl rfl | exact .inr rfl)) (gd_name (by decide)) (sd_one (sd_append (pv 3) (ed_pop (pv 2) (eh_callO o__law_draw (hr.mono (by decide)) T.g__law_draw (takes_of rfl rfl rfl rfl) (pv 0) (ad_cons (ed_len T.b_len (em_var (pv 2))) ad_nil)))))) (sds_fz (i := 3) (sd_one (sd_ret (ed_var (pv 3)))))))
theorem sc_lots_of : FnScope ["many", "found", "bar", "lot", "size"] ["many"] (defScope s_lots_of) := ⟨rfl, rfl, rfl, by decide +kernel, rfl, by decide +kernel, by decide +kernel⟩
theorem ok_lots_of (T : Tx K mg) (F : Fun K "lots_of" "lots_of" s_lots_of (He.ga K "lots_of") fd) : FnOk P w K mg base (L2.CX P w) 1 (He.ga K "lots_of") fd ["many"] (spP K J1 (sp_lots_of K)) := by
  refine okP ok1 F sc_lots_of (len_lots_of K) fun cdv A outer s H E hr => ⟨B_lots_of K, ?_, pu_lots_of K⟩
  have h64 := hr.units
  have h65 : (A.deeper (PyProof.Rows.envOfC "lots_of" (defScope s_lots_of) s.heap.objs.size (He.ga K "lots_of") cdv)).units + 65 < cLine := by have := hr.un; omega
  have h67 : (A.deeper (PyProof.Rows.envOfC "lots_of" (defScope s_lots_of) s.heap.objs.size (He.ga K "lots_of") cdv)).units + 67 < cLine := by have := hr.un; omega
  have h1 : (A.deeper (PyProof.Rows.envOfC "lots_of" (defScope s_lots_of) s.heap.objs.size (He.ga K "lots_of") cdv)).units + 1 < cLine := by have := hr.un; omega
  exact (sd_cons (sd_set (i := 1) sc_lots_of.nd (ed_f (ef_lst (ad_cons (ed_tup ad_nil) ad_nil)))) (sd_cons (sd_for (vs := [2]) (passes_of rfl) rfl (id_r1 T.b_range (ed_var (pv 0))) (pg_name (i := 2) sc_lots_of.nd rfl (by first | exact .inl rfl | exact .inr rfl)) (gd_name (by decide)) (sd_one (sd_set (i := 1) sc_lots_of.nd (ed_add (ed_var (pv 1)) (ed_f (ef_lc (own := [("lot", 3)]) rfl sc_lots_of.nd (id_lt (ed_var (pv 1))) (blkOk_by (by first | rfl | kernel_rfl)) (gd_name (by decide)) (fun _ _ _ _ _ => (pg_name (i := 3) sc_lots_of.nd rfl (by first | exact .inl rfl | exact .inr rfl))) (fun _ _ _ _ _ => tds_nil) (fun _ _ _ _ _ => (ed_tup (ad_star (ed_var (pv 3)) (ad_cons (ed_var (pv 2)) ad_nil)))))))))) (sd_one (sd_ret (ed_tuple T.b_tuple (ed_m (ed_f (ef_lc (own := [("size", 4), ("lot", 3)]) rfl sc_lots_of.nd (id_lt (ed_f (ef_sortP h67 T.b_sorted (ed_m (ed_f (ef_lc (own := [("lot", 3)]) rfl sc_lots_of.nd (id_lt (ed_var (pv 1))) (blkOk_by (by first | rfl | kernel_rfl)) (gd_name (by decide)) (fun _ _ _ _ _ => (pg_name (i := 3) sc_lots_of.nd rfl (by first | exact .inl rfl | exact .inr rfl))) (fun _ _ _ _ _ => tds_nil) (fun _ _ _ _ _ => (ed_tup (ad_cons (ed_len T.b_len (em_var (pv 3))) (ad_cons (ed_var (pv 3)) ad_nil)))))))))) (blkOk_by (by first | rfl | kernel_rfl)) (gd_tup (is := [4, 3]) rfl (by decide)) (fun _ _ _ _ _ => (pg_tup rfl (pgs_cons (pg_name (i := 4) sc_lots_of.nd rfl (by first | exact .inl rfl | exact .inr rfl)) (pgs_cons (pg_name (i := 3) sc_lots_of.nd rfl (by first | exact .inl rfl | exact .inr rfl)) pgs_nil)))) (fun _ _ _ _ _ => tds_nil) (fun _ _ _ _ _ => (ed_var (pv 3)))))))))))
theorem sc_sort_in : FnScope ["ring", "lot", "twice", "bar"] ["ring", "lot"] (defScope s_sort_in) := ⟨rfl, rfl, rfl, by decide +kernel, rfl, by decide +kernel, by decide +kernel⟩
theorem ok_sort_in (T : Tx K mg) (F : Fun K "sort_in" "sort_in" s_sort_in (He.ga K "sort_in") fd) : FnOk P w K mg base (L2.CX P w) 1 (He.ga K "sort_in") fd ["ring", "lot"] (spP K J1 (sp_sort_in K)) := by
  refine okP ok1 F sc_sort_in (len_sort_in K) fun cdv A outer s H E hr => ⟨B_sort_in K, ?_, pu_sort_in K⟩
  have h64 := hr.units
  have h65 : (A.deeper (PyProof.Rows.envOfC "sort_in" (defScope s_sort_in) s.heap.objs.size (He.ga K "sort_in") cdv)).units + 65 < cLine := by have := hr.un; omega
  have h67 : (A.deeper (PyProof.Rows.envOfC "sort_in" (defScope s_sort_in) s.heap.objs.size (He.ga K "sort_in") cdv)).units + 67 < cLine := by have := hr.un; omega
  have h1 : (A.deeper (PyProof.Rows.envOfC "sort_in" (defScope s_sort_in) s.heap.objs.size (He.ga K "sort_in") cdv)).units + 1 < cLine := by have := hr.un; omega
  exact (sd_cons (sd_set (i := 2) sc_sort_in.nd (ed_mul (ed_c pe_int fun _ _ => .int) (ed_sum rfl T.b_sum (ed_m (ed_f (ef_lc (own := [("bar", 3)]) rfl sc_sort_in.nd (id_lt (ed_var (pv 1))) (blkOk_by (by first | rfl | kernel_rfl)) (gd_name (by decide)) (fun _ _ _ _ _ => (pg_name (i := 3) sc_sort_in.nd rfl (by first | exact .inl rfl | exact .inr rfl))) (fun _ _ _ _ _ => tds_nil) (fun _ _ _ _ _ => (ed_ix (ed_fld T.c_Ring T.n_Ring_lengths (em_var (pv 0))) (ed_var (pv 3)))))))))) (sd_cons (sd_if (td_eq h64 (ed_var (pv 2)) (ed_m (ed_fld T.c_Ring T.n_Ring_total (em_var (pv 0))))) (sd_one (sd_ret (ed_c pe_str fun _ _ => .str))) sd_nil) (sd_one (sd_ret (ed_if (td_lt (ed_var (pv 2)) (ed_fld T.c_Ring T.n_Ring_total (em_var (pv 0)))) (ed_c pe_str fun _ _ => .str) (ed_c pe_str fun _ _ => .str))))))
theorem sc_lots_sorted : FnScope ["ring", "sort", "lot"] ["ring", "sort"] (defScope s_lots_sorted) := ⟨rfl, rfl, rfl, by decide +kernel, rfl, by decide +kernel, by decide +kernel⟩
theorem ok_lots_sorted (T : Tx K mg) (o_lots_of : HP P w K mg base 1 (He.ga K "lots_of") ["many"] (spP K J1 (sp_lots_of K))) (o_sort_in : HP P w K mg base 1 (He.ga K "sort_in") ["ring", "lot"] (spP K J1 (sp_sort_in K))) (F : Fun K "lots_sorted" "lots_sorted" s_lots_sorted (He.ga K "lots_sorted") fd) : FnOk P w K mg base (L2.CX P w) 2 (He.ga K "lots_sorted") fd ["ring", "sort"] (spP K J1 (sp_lots_sorted K)) := by
  refine okP ok1 F sc_lots_sorted (len_lots_sorted K) fun cdv A outer s H E hr => ⟨B_lots_sorted K, ?_, pu_lots_sorted K⟩
  have h64 := hr.units
  have h65 : (A.deeper (PyProof.Rows.envOfC "lots_sorted" (defScope s_lots_sorted) s.heap.objs.size (He.ga K "lots_sorted") cdv)).units + 65 < cLine := by have := hr.un; omega
  have h67 : (A.deeper (PyProof.Rows.envOfC "lots_sorted" (defScope s_lots_sorted) s.heap.objs.size (He.ga K "lots_sorted") cdv)).units + 67 < cLine := by have := hr.un; omega
  have h1 : (A.deeper (PyProof.Rows.envOfC "lots_sorted" (defScope s_lots_sorted) s.heap.objs.size (He.ga K "lots_sorted") cdv)).units + 1 < cLine := by have := hr.un; omega
  exact (sd_one (sd_ret (ed_tuple T.b_tuple (ed_m (ed_f (ef_lc (own := [("lot", 2)]) rfl sc_lots_sorted.nd (id_lt (eh_call o_lots_of (hr.mono (by decide)) T.g_lots_of (takes_of rfl rfl rfl rfl) (ad_cons (ed_len T.b_len (ed_m (ed_fld T.c_Ring T.n_Ring_lengths (em_var (pv 0))))) ad_nil))) (blkOk_by (by first | rfl | kernel_rfl)) (gd_name (by decide)) (fun _ _ _ _ _ => (pg_name (i := 2) sc_lots_sorted.nd rfl (by first | exact .inl rfl | exact .inr rfl))) (fun _ _ _ _ _ => tds_one (td_eq h64 (eh_call o_sort_in (hr.mono (by decide)) T.g_sort_in takes0 (ad_cons (ed_var (pv 0)) (ad_cons (ed_var (pv 2)) ad_nil))) (em_var (pv 1)))) (fun _ _ _ _ _ => (ed_var (pv 2)))))))))
theorem sc_need_ring : FnScope ["value", "part"] ["value", "part"] (defScope s_need_ring) := ⟨rfl, rfl, rfl, by decide +kernel, rfl, by decide +kernel, by decide +kernel⟩
theorem ok_need_ring (T : Tx K mg) (F : Fun K "need_ring" "need_ring" s_need_ring (He.ga K "need_ring") fd) : FnOk P w K mg base (L2.CX P w) 1 (He.ga K "need_ring") fd ["value", "part"] (spP K J1 (sp_need_ring K)) := by
  refine okP ok1 F sc_need_ring (len_need_ring K) fun cdv A outer s H E hr => ⟨B_need_ring K, ?_, pu_need_ring K T.is_Ring⟩
  have h64 := hr.units
  have h65 : (A.deeper (PyProof.Rows.envOfC "need_ring" (defScope s_need_ring) s.heap.objs.size (He.ga K "need_ring") cdv)).units + 65 < cLine := by have := hr.un; omega
  have h67 : (A.deeper (PyProof.Rows.envOfC "need_ring" (defScope s_need_ring) s.heap.objs.size (He.ga K "need_ring") cdv)).units + 67 < cLine := by have := hr.un; omega
  have h1 : (A.deeper (PyProof.Rows.envOfC "need_ring" (defScope s_need_ring) s.heap.objs.size (He.ga K "need_ring") cdv)).units + 1 < cLine := by have := hr.un; omega
  exact (sd_one (sd_if (td_not (td_val (ed_isiC T.b_isinstance (ed_var (pv 0)) (pe_glob rfl T.g_Ring rfl)))) (sd_one sd_no) sd_nil))
theorem sc_greatest_short : FnScope ["ring", "found", "lot", "others", "bar"] ["ring"] (defScope s_greatest_short) := ⟨rfl, rfl, rfl, by decide +kernel, rfl, by decide +kernel, by decide +kernel⟩
theorem ok_greatest_short (T : Tx K mg) (o_sort_in : HP P w K mg base 1 (He.ga K "sort_in") ["ring", "lot"] (spP K J1 (sp_sort_in K))) (o_lots_sorted : HP P w K mg base 2 (He.ga K "lots_sorted") ["ring", "sort"] (spP K J1 (sp_lots_sorted K))) (o_need_ring : HP P w K mg base 1 (He.ga K "need_ring") ["value", "part"] (spP K J1 (sp_need_ring K))) (F : Fun K "greatest_short" "greatest_short" s_greatest_short (He.ga K "greatest_short") fd) : FnOk P w K mg base (L2.CX P w) 3 (He.ga K "greatest_short") fd ["ring"] (spP K J1 (sp_greatest_short K)) := by
  refine okP ok1 F sc_greatest_short (len_greatest_short K) fun cdv A outer s H E hr => ⟨B_greatest_short K, ?_, pu_greatest_short K⟩
  have h64 := hr.units
  have h65 : (A.deeper (PyProof.Rows.envOfC "greatest_short" (defScope s_greatest_short) s.heap.objs.size (He.ga K "greatest_short") cdv)).units + 65 < cLine := by have := hr.un; omega
  have h67 : (A.deeper (PyProof.Rows.envOfC "greatest_short" (defScope s_greatest_short) s.heap.objs.size (He.ga K "greatest_short") cdv)).units + 67 < cLine := by have := hr.un; omega
  have h1 : (A.deeper (PyProof.Rows.envOfC "greatest_short" (defScope s_greatest_short) s.heap.objs.size (He.ga K "greatest_short") cdv)).units + 1 < cLine := by have := hr.un; omega
  exact (sd_cons (sd_expr (eh_call o_need_ring (hr.mono (by decide)) T.g_need_ring (takes_of rfl rfl rfl rfl) (ad_cons (ed_var (pv 0)) (ad_cons (ed_c pe_str fun _ _ => .str) ad_nil)))) (sd_cons (sd_setO (i := 1) sc_greatest_short.nd (ef_lst ad_nil)) (sd_cons (sd_for (vs := [2]) (passes_of rfl) rfl (id_lt (eh_call o_lots_sorted (hr.mono (by decide)) T.g_lots_sorted (takes_of rfl rfl rfl rfl) (ad_cons (ed_var (pv 0)) (ad_cons (ed_c pe_str fun _ _ => .str) ad_nil)))) (pg_name (i := 2) sc_greatest_short.nd rfl (by first | exact .inl rfl | exact .inr rfl)) (gd_name (by decide)) (sd_cons (sd_setLc (own := [("bar", 4)]) (i := 3) rfl sc_greatest_short.nd (sw_true rfl rfl (by rfl) (by first | rfl | kernel_rfl)) (id_r1 T.b_range (ed_len T.b_len (ed_m (ed_fld T.c_Ring T.n_Ring_lengths (em_var (pv 0)))))) (blkOk_by (by first | rfl | kernel_rfl)) (gd_name (by decide)) (fun _ _ _ _ _ => (pg_name (i := 4) sc_greatest_short.nd rfl (by first | exact .inl rfl | exact .inr rfl))) (fun _ _ _ _ _ => tds_one (td_notIn h65 (ed_var (pv 4)) (em_var (pv 2)))) (fun _ _ _ _ _ => (ed_var (pv 4)))) (sd_one (sd_if (td_not (td_val (ed_any rfl T.b_any (ed_m (ed_f (ef_lc (own := [("bar", 4)]) rfl sc_greatest_short.nd (id_lt (ed_var (pv 3))) (blkOk_by (by first | rfl | kernel_rfl)) (gd_name (by decide)) (fun _ _ _ _ _ => (pg_name (i := 4) sc_greatest_short.nd rfl (by first | exact .inl rfl | exact .inr rfl))) (fun _ _ _ _ _ => tds_nil) (fun _ _ _ _ _ => (ed_eq h64 (eh_call o_sort_in (hr.mono (by decide)) T.g_sort_in takes0 (ad_cons (ed_var (pv 0)) (ad_cons (ed_tup (ad_star (ed_var (pv 2)) (ad_cons (ed_var (pv 4)) ad_nil))) ad_nil))) (ed_m (ed_c pe_str fun _ _ => .str)))))))))) (sd_one (sd_append (pv 1) (ed_var (pv 2)))) sd_nil)))) (sd_one (sd_ret (ed_tuple T.b_tuple (em_var (pv 1))))))))
theorem sc_less_by_one : FnScope ["lot", "at"] ["lot"] (defScope s_less_by_one) := ⟨rfl, rfl, rfl, by decide +kernel, rfl, by decide +kernel, by decide +kernel⟩
theorem ok_less_by_one (T : Tx K mg) (F : Fun K "less_by_one" "less_by_one" s_less_by_one (He.ga K "less_by_one") fd) : FnOk P w K mg base (L2.CX P w) 1 (He.ga K "less_by_one") fd ["lot"] (spP K J1 (sp_less_by_one K)) := by
  refine okP ok1 F sc_less_by_one (len_less_by_one K) fun cdv A outer s H E hr => ⟨B_less_by_one K, ?_, pu_less_by_one K⟩
  have h64 := hr.units
  have h65 : (A.deeper (PyProof.Rows.envOfC "less_by_one" (defScope s_less_by_one) s.heap.objs.size (He.ga K "less_by_one") cdv)).units + 65 < cLine := by have := hr.un; omega
  have h67 : (A.deeper (PyProof.Rows.envOfC "less_by_one" (defScope s_less_by_one) s.heap.objs.size (He.ga K "less_by_one") cdv)).units + 67 < cLine := by have := hr.un; omega
  have h1 : (A.deeper (PyProof.Rows.envOfC "less_by_one" (defScope s_less_by_one) s.heap.objs.size (He.ga K "less_by_one") cdv)).units + 1 < cLine := by have := hr.un; omega
  exact (sd_one (sd_ret (ed_f (ef_lc (own := [("at", 1)]) rfl sc_less_by_one.nd (id_r1 T.b_range (ed_len T.b_len (em_var (pv 0)))) (blkOk_by (by first | rfl | kernel_rfl)) (gd_name (by decide)) (fun _ _ _ _ _ => (pg_name (i := 1) sc_less_by_one.nd rfl (by first | exact .inl rfl | exact .inr rfl))) (fun _ _ _ _ _ => tds_nil) (fun _ _ _ _ _ => (ed_add (ed_slT (ed_var (pv 0)) od_no (od_is1 (ed_var (pv 1)))) (ed_slT (ed_var (pv 0)) (od_is1 (ed_add (ed_var (pv 1)) (ed_c pe_int fun _ _ => .int))) od_no)))))))
theorem sc_least_long : FnScope ["ring", "found", "lot", "less"] ["ring"] (defScope s_least_long) := ⟨rfl, rfl, rfl, by decide +kernel, rfl, by decide +kernel, by decide +kernel⟩
theorem ok_least_long (T : Tx K mg) (o_sort_in : HP P w K mg base 1 (He.ga K "sort_in") ["ring", "lot"] (spP K J1 (sp_sort_in K))) (o_lots_sorted : HP P w K mg base 2 (He.ga K "lots_sorted") ["ring", "sort"] (spP K J1 (sp_lots_sorted K))) (o_need_ring : HP P w K mg base 1 (He.ga K "need_ring") ["value", "part"] (spP K J1 (sp_need_ring K))) (o_less_by_one : HP P w K mg base 1 (He.ga K "less_by_one") ["lot"] (spP K J1 (sp_less_by_one K))) (F : Fun K "least_long" "least_long" s_least_long (He.ga K "least_long") fd) : FnOk P w K mg base (L2.CX P w) 3 (He.ga K "least_long") fd ["ring"] (spP K J1 (sp_least_long K)) := by
  refine okP ok1 F sc_least_long (len_least_long K) fun cdv A outer s H E hr => ⟨B_least_long K, ?_, pu_least_long K⟩
  have h64 := hr.units
  have h65 : (A.deeper (PyProof.Rows.envOfC "least_long" (defScope s_least_long) s.heap.objs.size (He.ga K "least_long") cdv)).units + 65 < cLine := by have := hr.un; omega
  have h67 : (A.deeper (PyProof.Rows.envOfC "least_long" (defScope s_least_long) s.heap.objs.size (He.ga K "least_long") cdv)).units + 67 < cLine := by have := hr.un; omega
  have h1 : (A.deeper (PyProof.Rows.envOfC "least_long" (defScope s_least_long) s.heap.objs.size (He.ga K "least_long") cdv)).units + 1 < cLine := by have := hr.un; omega
  exact (sd_cons (sd_expr (eh_call o_need_ring (hr.mono (by decide)) T.g_need_ring (takes_of rfl rfl rfl rfl) (ad_cons (ed_var (pv 0)) (ad_cons (ed_c pe_str fun _ _ => .str) ad_nil)))) (sd_cons (sd_setO (i := 1) sc_least_long.nd (ef_lst ad_nil)) (sd_cons (sd_for (vs := [2]) (passes_of rfl) rfl (id_lt (eh_call o_lots_sorted (hr.mono (by decide)) T.g_lots_sorted (takes_of rfl rfl rfl rfl) (ad_cons (ed_var (pv 0)) (ad_cons (ed_c pe_str fun _ _ => .str) ad_nil)))) (pg_name (i := 2) sc_least_long.nd rfl (by first | exact .inl rfl | exact .inr rfl)) (gd_name (by decide)) (sd_one (sd_if (td_not (td_val (ed_any rfl T.b_any (ed_m (ed_f (ef_lc (own := [("less", 3)]) rfl sc_least_long.nd (id_lt (eh_call o_less_by_one (hr.mono (by decide)) T.g_less_by_one (takes_of rfl rfl rfl rfl) (ad_cons (ed_var (pv 2)) ad_nil))) (blkOk_by (by first | rfl | kernel_rfl)) (gd_name (by decide)) (fun _ _ _ _ _ => (pg_name (i := 3) sc_least_long.nd rfl (by first | exact .inl rfl | exact .inr rfl))) (fun _ _ _ _ _ => tds_nil) (fun _ _ _ _ _ => (ed_eq h64 (eh_call o_sort_in (hr.mono (by decide)) T.g_sort_in takes0 (ad_cons (ed_var (pv 0)) (ad_cons (ed_var (pv 3)) ad_nil))) (ed_m (ed_c pe_str fun _ _ => .str)))))))))) (sd_one (sd_append (pv 1) (ed_var (pv 2)))) sd_nil))) (sd_one (sd_ret (ed_tuple T.b_tuple (em_var (pv 1))))))))
theorem sc_level_lots : FnScope ["ring"] ["ring"] (defScope s_level_lots) := ⟨rfl, rfl, rfl, by decide +kernel, rfl, by decide +kernel, by decide +kernel⟩
theorem ok_level_lots (T : Tx K mg) (o_lots_sorted : HP P w K mg base 2 (He.ga K "lots_sorted") ["ring", "sort"] (spP K J1 (sp_lots_sorted K))) (o_need_ring : HP P w K mg base 1 (He.ga K "need_ring") ["value", "part"] (spP K J1 (sp_need_ring K))) (F : Fun K "level_lots" "level_lots" s_level_lots (He.ga K "level_lots") fd) : FnOk P w K mg base (L2.CX P w) 3 (He.ga K "level_lots") fd ["ring"] (spP K J1 (sp_level_lots K)) := by
  refine okP ok1 F sc_level_lots (len_level_lots K) fun cdv A outer s H E hr => ⟨B_level_lots K, ?_, pu_level_lots K⟩
  have h64 := hr.units
  have h65 : (A.deeper (PyProof.Rows.envOfC "level_lots" (defScope s_level_lots) s.heap.objs.size (He.ga K "level_lots") cdv)).units + 65 < cLine := by have := hr.un; omega
  have h67 : (A.deeper (PyProof.Rows.envOfC "level_lots" (defScope s_level_lots) s.heap.objs.size (He.ga K "level_lots") cdv)).units + 67 < cLine := by have := hr.un; omega
  have h1 : (A.deeper (PyProof.Rows.envOfC "level_lots" (defScope s_level_lots) s.heap.objs.size (He.ga K "level_lots") cdv)).units + 1 < cLine := by have := hr.un; omega
  exact (sd_cons (sd_expr (eh_call o_need_ring (hr.mono (by decide)) T.g_need_ring (takes_of rfl rfl rfl rfl) (ad_cons (ed_var (pv 0)) (ad_cons (ed_c pe_str fun _ _ => .str) ad_nil)))) (sd_one (sd_ret (eh_call o_lots_sorted (hr.mono (by decide)) T.g_lots_sorted (takes_of rfl rfl rfl rfl) (ad_cons (ed_var (pv 0)) (ad_cons (ed_c pe_str fun _ _ => .str) ad_nil))))))
theorem sc_short_lots : FnScope ["ring"] ["ring"] (defScope s_short_lots) := ⟨rfl, rfl, rfl, by decide +kernel, rfl, by decide +kernel, by decide +kernel⟩
theorem ok_short_lots (T : Tx K mg) (o_lots_sorted : HP P w K mg base 2 (He.ga K "lots_sorted") ["ring", "sort"] (spP K J1 (sp_lots_sorted K))) (o_need_ring : HP P w K mg base 1 (He.ga K "need_ring") ["value", "part"] (spP K J1 (sp_need_ring K))) (F : Fun K "short_lots" "short_lots" s_short_lots (He.ga K "short_lots") fd) : FnOk P w K mg base (L2.CX P w) 3 (He.ga K "short_lots") fd ["ring"] (spP K J1 (sp_short_lots K)) := by
  refine okP ok1 F sc_short_lots (len_short_lots K) fun cdv A outer s H E hr => ⟨B_short_lots K, ?_, pu_short_lots K⟩
  have h64 := hr.units
  have h65 : (A.deeper (PyProof.Rows.envOfC "short_lots" (defScope s_short_lots) s.heap.objs.size (He.ga K "short_lots") cdv)).units + 65 < cLine := by have := hr.un; omega
  have h67 : (A.deeper (PyProof.Rows.envOfC "short_lots" (defScope s_short_lots) s.heap.objs.size (He.ga K "short_lots") cdv)).units + 67 < cLine := by have := hr.un; omega
  have h1 : (A.deeper (PyProof.Rows.envOfC "short_lots" (defScope s_short_lots) s.heap.objs.size (He.ga K "short_lots") cdv)).units + 1 < cLine := by have := hr.un; omega
  exact (sd_cons (sd_expr (eh_call o_need_ring (hr.mono (by decide)) T.g_need_ring (takes_of rfl rfl rfl rfl) (ad_cons (ed_var (pv 0)) (ad_cons (ed_c pe_str fun _ _ => .str) ad_nil)))) (sd_one (sd_ret (eh_call o_lots_sorted (hr.mono (by decide)) T.g_lots_sorted (takes_of rfl rfl rfl rfl) (ad_cons (ed_var (pv 0)) (ad_cons (ed_c pe_str fun _ _ => .str) ad_nil))))))
theorem sc__law_anew_right : FnScope ["_law_pen_here", "_law_lengths_here", "_law_ring", "_law_many", "_law_bar", "_law_rows", "_law_order", "_law_new", "_law_places", "_law_ask", "_law_at"] ["_law_pen_here", "_law_lengths_here"] (defScope s__law_anew_right) := ⟨rfl, rfl, rfl, by decide +kernel, rfl, by decide +kernel, by decide +kernel⟩
theorem ok__law_anew_right (T : Tx K mg) (o_Ring_init : HP P w K mg base 4 (He.ma K (He.ga K "Ring") "__init__") ["self", "lengths"] (spO K J1 (sp_Ring_init K))) (o_Ring_backwards : HP P w K mg base 6 (He.ma K (He.ga K "Ring") "backwards") ["self"] (spP K J1 (sp_Ring_backwards K))) (o_Ring_begun_at : HP P w K mg base 6 (He.ma K (He.ga K "Ring") "begun_at") ["self", "bar"] (spP K J1 (sp_Ring_begun_at K))) (o_Ring_in_order : HP P w K mg base 6 (He.ma K (He.ga K "Ring") "in_order") ["self", "order"] (spP K J1 (sp_Ring_in_order K))) (o__law_draw : HP P w K mg base 1 (He.ga K "_law_draw") ["_law_pen_here", "_law_many"] (spO K J1 (sp__law_draw K))) (o__law_lots_anew : HP P w K mg base 1 (He.ga K "_law_lots_anew") ["_law_lots_here", "_law_order"] (spP K J1 (sp__law_lots_anew K))) (o__law_mixed : HP P w K mg base 2 (He.ga K "_law_mixed") ["_law_pen_here", "_law_items"] (spO K J1 (sp__law_mixed K))) (o_greatest_short : HP P w K mg base 3 (He.ga K "greatest_short") ["ring"] (spP K J1 (sp_greatest_short K))) (o_least_long : HP P w K mg base 3 (He.ga K "least_long") ["ring"] (spP K J1 (sp_least_long K))) (o_level_lots : HP P w K mg base 3 (He.ga K "level_lots") ["ring"] (spP K J1 (sp_level_lots K))) (o_short_lots : HP P w K mg base 3 (He.ga K "short_lots") ["ring"] (spP K J1 (sp_short_lots K))) (F : Fun K "_law_anew_right" "_law_anew_right" s__law_anew_right (He.ga K "_law_anew_right") fd) : FnOk P w K mg base (L2.CX P w) 7 (He.ga K "_law_anew_right") fd ["_law_pen_here", "_law_lengths_here"] (spO K J1 (sp__law_anew_right K)) := by
  refine okO ok1 F sc__law_anew_right (len__law_anew_right K) fun cdv A outer s H E hr => ⟨B__law_anew_right K, ?_, pu__law_anew_right K⟩
  have h64 := hr.units
  have h65 : (A.deeper (PyProof.Rows.envOfC "_law_anew_right" (defScope s__law_anew_right) s.heap.objs.size (He.ga K "_law_anew_right") cdv)).units + 65 < cLine := by have := hr.un; omega
  have h67 : (A.deeper (PyProof.Rows.envOfC "_law_anew_right" (defScope s__law_anew_right) s.heap.objs.size (He.ga K "_law_anew_right") cdv)).units + 67 < cLine := by have := hr.un; omega
  have h1 : (A.deeper (PyProof.Rows.envOfC "_law_anew_right" (defScope s__law_anew_right) s.heap.objs.size (He.ga K "_law_anew_right") cdv)).units + 1 < cLine := by have := hr.un; omega
  exact (sd_cons (sd_asg (vs := [2, 3]) (ed_tup (ad_cons (eh_make T.mk_Ring o_Ring_init (hr.mono (by decide)) T.g_Ring (takes_of rfl rfl rfl rfl) (fun _ _ _ _ _ h => h) (ad_cons (ed_var (pv 1)) ad_nil)) (ad_cons (ed_len T.b_len (em_var (pv 1))) ad_nil))) (pg_tup rfl (pgs_cons (pg_name (i := 2) sc__law_anew_right.nd rfl (by first | exact .inl rfl | exact .inr rfl)) (pgs_cons (pg_name (i := 3) sc__law_anew_right.nd rfl (by first | exact .inl rfl | exact .inr rfl)) pgs_nil))) (gd_tup (is := [2, 3]) rfl (by decide))) (sd_cons (sd_set (i := 4) sc__law_anew_right.nd (eh_callO o__law_draw (hr.mono (by decide)) T.g__law_draw (takes_of rfl rfl rfl rfl) (pv 0) (ad_cons (ed_var (pv 3)) ad_nil))) (sd_cons (sd_setO (i := 5) sc__law_anew_right.nd (ef_lst (ad_cons (ed_tup (ad_cons (eh_meth T.c_Ring T.m_Ring_begun_at o_Ring_begun_at (hr.mono (by decide)) (takes_of rfl rfl rfl rfl) (fun _ _ _ _ _ h => h) (ed_var (pv 2)) (ad_cons (ed_var (pv 4)) ad_nil)) (ad_cons (ed_f (ef_lc (own := [("_law_at", 10)]) rfl sc__law_anew_right.nd (id_r1 T.b_range (ed_var (pv 3))) (blkOk_by (by first | rfl | kernel_rfl)) (gd_name (by decide)) (fun _ _ _ _ _ => (pg_name (i := 10) sc__law_anew_right.nd rfl (by first | exact .inl rfl | exact .inr rfl))) (fun _ _ _ _ _ => tds_nil) (fun _ _ _ _ _ => (ed_mod (ed_intc T.b_int (ed_m (ed_add (ed_var (pv 4)) (ed_var (pv 10))))) (ed_var (pv 3)))))) ad_nil))) ad_nil))) (sd_cons (sd_append (pv 5) (ed_tup (ad_cons (eh_meth0 T.c_Ring T.m_Ring_backwards o_Ring_backwards (hr.mono (by decide)) (takes_of rfl rfl rfl rfl) (fun _ _ _ _ _ h => h) (ed_var (pv 2))) (ad_cons (ed_f (ef_lc (own := [("_law_at", 10)]) rfl sc__law_anew_right.nd (id_r1 T.b_range (ed_var (pv 3))) (blkOk_by (by first | rfl | kernel_rfl)) (gd_name (by decide)) (fun _ _ _ _ _ => (pg_name (i := 10) sc__law_anew_right.nd rfl (by first | exact .inl rfl | exact .inr rfl))) (fun _ _ _ _ _ => tds_nil) (fun _ _ _ _ _ => (ed_mod (ed_intc T.b_int (ed_m (ed_sub (ed_var (pv 3)) (ed_var (pv 10))))) (ed_var (pv 3)))))) ad_nil)))) (sd_cons (sd_set (i := 6) sc__law_anew_right.nd (eh_callO o__law_mixed (hr.mono (by decide)) T.g__law_mixed (takes_of rfl rfl rfl rfl) (pv 0) (ad_cons (ed_f (ef_listR rfl T.b_list T.b_range (ed_var (pv 3)))) ad_nil))) (sd_cons (sd_append (pv 5) (ed_tup (ad_cons (eh_meth T.c_Ring T.m_Ring_in_order o_Ring_in_order (hr.mono (by decide)) (takes_of rfl rfl rfl rfl) (fun _ _ _ _ _ h => h) (ed_var (pv 2)) (ad_cons (ed_var (pv 6)) ad_nil)) (ad_cons (ed_var (pv 6)) ad_nil)))) (sds_fz (i := 5) (sd_cons (sd_for (vs := [7, 8]) (passes_of rfl) rfl (id_lt (ed_var (pv 5))) (pg_tup rfl (pgs_cons (pg_name (i := 7) sc__law_anew_right.nd rfl (by first | exact .inl rfl | exact .inr rfl)) (pgs_cons (pg_name (i := 8) sc__law_anew_right.nd rfl (by first | exact .inl rfl | exact .inr rfl)) pgs_nil))) (gd_tup (is := [7, 8]) rfl (by decide)) (sd_cons (sd_for (vs := [9]) (passes_of rfl) rfl (id_lt (ed_tup (ad_cons (ed_gf T.g_short_lots) (ad_cons (ed_gf T.g_level_lots) (ad_cons (ed_gf T.g_least_long) (ad_cons (ed_gf T.g_greatest_short) ad_nil)))))) (pg_name (i := 9) sc__law_anew_right.nd rfl (by first | exact .inl rfl | exact .inr rfl)) (gd_name (by decide)) (sd_one (sd_if (td_ne h64 (eh_callR (T := [(He.ga K "short_lots", sp_short_lots K), (He.ga K "level_lots", sp_level_lots K), (He.ga K "least_long", sp_least_long K), (He.ga K "greatest_short", sp_greatest_short K)]) (k := 3) (by intro q hq; simp only [List.mem_cons, List.not_mem_nil, or_false] at hq; rcases hq with rfl | rfl | rfl | rfl; exact (o_short_lots.mono (by decide)).held; exact (o_level_lots.mono (by decide)).held; exact (o_least_long.mono (by decide)).held; exact (o_greatest_short.mono (by decide)).held) (hr.mono (by decide)) (takes_of rfl rfl rfl rfl) (fun _ _ _ _ _ h => h) (ad_cons (ed_var (pv 7)) ad_nil)) (ed_m (eh_call o__law_lots_anew (hr.mono (by decide)) T.g__law_lots_anew (takes_of rfl rfl rfl rfl) (ad_cons (eh_callR (T := [(He.ga K "short_lots", sp_short_lots K), (He.ga K "level_lots", sp_level_lots K), (He.ga K "least_long", sp_least_long K), (He.ga K "greatest_short", sp_greatest_short K)]) (k := 3) (by intro q hq; simp only [List.mem_cons, List.not_mem_nil, or_false] at hq; rcases hq with rfl | rfl | rfl | rfl; exact (o_short_lots.mono (by decide)).held; exact (o_level_lots.mono (by decide)).held; exact (o_least_long.mono (by decide)).held; exact (o_greatest_short.mono (by decide)).held) (hr.mono (by decide)) (takes_of rfl rfl rfl rfl) (fun _ _ _ _ _ h => h) (ad_cons (ed_var (pv 2)) ad_nil)) (ad_cons (ed_var (pv 8)) ad_nil))))) (sd_one (sd_ret (ed_c pe_bl fun _ _ => .bl))) sd_nil))) (sd_one (sd_if (td_ne h64 (ed_tup (ad_cons (ed_fld T.c_Ring T.n_Ring_closes (em_var (pv 7))) (ad_cons (ed_fld T.c_Ring T.n_Ring_is_clear (em_var (pv 7))) (ad_cons (ed_fld T.c_Ring T.n_Ring_total (em_var (pv 7))) ad_nil)))) (ed_m (ed_tup (ad_cons (ed_fld T.c_Ring T.n_Ring_closes (em_var (pv 2))) (ad_cons (ed_fld T.c_Ring T.n_Ring_is_clear (em_var (pv 2))) (ad_cons (ed_fld T.c_Ring T.n_Ring_total (em_var (pv 2))) ad_nil)))))) (sd_one (sd_ret (ed_c pe_bl fun _ _ => .bl))) sd_nil)))) (sd_one (sd_ret (ed_c pe_bl fun _ _ => .bl)))))))))))
theorem sc__law_lengths : FnScope ["_law_pen_here", "_law_many", "_law_way", "_law_most", "_law_found", "_law_at", "_law_rest", "_law_signed", "_law_bar", "_law_length"] ["_law_pen_here"] (defScope s__law_lengths) := ⟨rfl, rfl, rfl, by decide +kernel, rfl, by decide +kernel, by decide +kernel⟩
theorem ok__law_lengths (T : Tx K mg) (o__law_draw : HP P w K mg base 1 (He.ga K "_law_draw") ["_law_pen_here", "_law_many"] (spO K J1 (sp__law_draw K))) (F : Fun K "_law_lengths" "_law_lengths" s__law_lengths (He.ga K "_law_lengths") fd) : FnOk P w K mg base (L2.CX P w) 2 (He.ga K "_law_lengths") fd ["_law_pen_here"] (spO K J1 (sp__law_lengths K)) := by
  refine okO ok1 F sc__law_lengths (len__law_lengths K) fun cdv A outer s H E hr => ⟨B__law_lengths K, ?_, pu__law_lengths K⟩
  have h64 := hr.units
  have h65 : (A.deeper (PyProof.Rows.envOfC "_law_lengths" (defScope s__law_lengths) s.heap.objs.size (He.ga K "_law_lengths") cdv)).units + 65 < cLine := by have := hr.un; omega
  have h67 : (A.deeper (PyProof.Rows.envOfC "_law_lengths" (defScope s__law_lengths) s.heap.objs.size (He.ga K "_law_lengths") cdv)).units + 67 < cLine := by have := hr.un; omega
  have h1 : (A.deeper (PyProof.Rows.envOfC "_law_lengths" (defScope s__law_lengths) s.heap.objs.size (He.ga K "_law_lengths") cdv)).units + 1 < cLine := by have := hr.un; omega
  exact (sd_cons (sd_parSS (i := 1) (j := 2) rfl sc__law_lengths.nd (ed_add (ed_c pe_int fun _ _ => .int) (eh_callO o__law_draw (hr.mono (by decide)) T.g__law_draw (takes_of rfl rfl rfl rfl) (pv 0) (ad_cons (ed_c pe_int fun _ _ => .int) ad_nil))) (eh_callO o__law_draw (hr.mono (by decide)) T.g__law_draw (takes_of rfl rfl rfl rfl) (pv 0) (ad_cons (ed_c pe_int fun _ _ => .int) ad_nil))) (sd_cons (sd_set (i := 3) sc__law_lengths.nd (ed_ix (ed_f (ef_lst (ad_cons (ed_c pe_int fun _ _ => .int) (ad_cons (ed_c pe_int fun _ _ => .int) (ad_cons (ed_c pe_int fun _ _ => .int) (ad_cons (ed_c pe_int fun _ _ => .int) (ad_cons (ed_c pe_int fun _ _ => .int) (ad_cons (ed_c pe_int fun _ _ => .int) (ad_cons (ed_c pe_int fun _ _ => .int) ad_nil))))))))) (ed_var (pv 2)))) (sd_cons (sd_setLcO (own := [("_law_bar", 8)]) (i := 4) rfl sc__law_lengths.nd (sw_true rfl rfl (by rfl) (by first | rfl | kernel_rfl)) (id_r1 T.b_range (ed_var (pv 1))) (blkOk_by (by first | rfl | kernel_rfl)) (gd_name (by decide)) (fun _ _ _ _ _ => (pg_name (i := 8) sc__law_lengths.nd rfl (by first | exact .inl rfl | exact .inr rfl))) (fun _ _ _ _ _ => tds_nil) (fun _ _ _ _ _ => (ed_add (ed_c pe_int fun _ _ => .int) (eh_callO o__law_draw (hr.mono (by decide)) T.g__law_draw takes0 (pv 0) (ad_cons (ed_var (pv 3)) ad_nil))))) (sd_cons (sd_set (i := 5) sc__law_lengths.nd (eh_callO o__law_draw (hr.mono (by decide)) T.g__law_draw (takes_of rfl rfl rfl rfl) (pv 0) (ad_cons (ed_var (pv 1)) ad_nil))) (sd_cons (sd_set (i := 6) sc__law_lengths.nd (ed_sub (ed_sum rfl T.b_sum (em_var (pv 4))) (ed_ixO (pv 4) (ed_var (pv 5))))) (sd_cons (sd_if (td_eq h64 (ed_var (pv 2)) (ed_m (ed_c pe_int fun _ _ => .int))) (sd_one (sd_sub (ed_add (ed_var (pv 6)) (eh_callO o__law_draw (hr.mono (by decide)) T.g__law_draw (takes_of rfl rfl rfl rfl) (pv 0) (ad_cons (ed_c pe_int fun _ _ => .int) ad_nil))) (pv 4) (ed_var (pv 5)))) sd_nil) (sd_cons (sd_if (td_eq h64 (ed_var (pv 2)) (ed_m (ed_c pe_int fun _ _ => .int))) (sd_cons (sd_set (i := 7) sc__law_lengths.nd (ed_sum rfl T.b_sum (ed_m (ed_f (ef_lcE (own := [("_law_bar", 8), ("_law_length", 9)]) T.b_enumerate rfl sc__law_lengths.nd (pv 4) (blkOk_by (by first | rfl | kernel_rfl)) (gd_tup (is := [8, 9]) rfl (by decide)) (fun _ _ _ _ _ => (pg_tup rfl (pgs_cons (pg_name (i := 8) sc__law_lengths.nd rfl (by first | exact .inl rfl | exact .inr rfl)) (pgs_cons (pg_name (i := 9) sc__law_lengths.nd rfl (by first | exact .inl rfl | exact .inr rfl)) pgs_nil)))) (fun _ _ _ _ _ => tds_one (td_ne h64 (ed_var (pv 8)) (em_var (pv 5)))) (fun _ _ _ _ _ => (ed_mul (ed_var (pv 9)) (ed_sub (ed_c pe_int fun _ _ => .int) (ed_mul (ed_c pe_int fun _ _ => .int) (eh_callO o__law_draw (hr.mono (by decide)) T.g__law_draw takes0 (pv 0) (ad_cons (ed_c pe_int fun _ _ => .int) ad_nil))))))))))) (sd_one (sd_sub (ed_max2 rfl T.b_max (ed_c pe_int fun _ _ => .int) (ed_abs T.b_abs (em_var (pv 7)))) (pv 4) (ed_var (pv 5))))) sd_nil) (sds_fz (i := 4) (sd_one (sd_ret (ed_var (pv 4))))))))))))
theorem sc__law_pen : FnScope ["_law_script", "_law_cell"] ["_law_script"] (defScope s__law_pen) := ⟨rfl, rfl, rfl, by decide +kernel, rfl, by decide +kernel, by decide +kernel⟩
theorem ok__law_pen (T : Tx K mg) (F : Fun K "_law_pen" "_law_pen" s__law_pen (He.ga K "_law_pen") fd) : FnOk P w K mg base (L2.CX P w) 1 (He.ga K "_law_pen") fd ["_law_script"] (spF K J1 (sp__law_pen K)) := by
  refine okF ok1 F sc__law_pen (len__law_pen K) rfl fun cdv A outer s H E hr => ⟨B__law_pen K, ?_, pu__law_pen K⟩
  have h64 := hr.units
  have h65 : (A.deeper (PyProof.Rows.envOfC "_law_pen" (defScope s__law_pen) s.heap.objs.size (He.ga K "_law_pen") cdv)).units + 65 < cLine := by have := hr.un; omega
  have h67 : (A.deeper (PyProof.Rows.envOfC "_law_pen" (defScope s__law_pen) s.heap.objs.size (He.ga K "_law_pen") cdv)).units + 67 < cLine := by have := hr.un; omega
  have h1 : (A.deeper (PyProof.Rows.envOfC "_law_pen" (defScope s__law_pen) s.heap.objs.size (He.ga K "_law_pen") cdv)).units + 1 < cLine := by have := hr.un; omega
  exact (ef_lst (ad_cons (ed_f (ef_lc (own := [("_law_cell", 1)]) rfl sc__law_pen.nd (id_lt (ed_f (ef_sl (ed_var (pv 0)) od_no (od_is1 (ed_c pe_int fun _ _ => .int))))) (blkOk_by (by first | rfl | kernel_rfl)) (gd_name (by decide)) (fun _ _ _ _ _ => (pg_name (i := 1) sc__law_pen.nd rfl (by first | exact .inl rfl | exact .inr rfl))) (fun _ _ _ _ _ => tds_nil) (fun _ _ _ _ _ => (ed_intc T.b_int (em_var (pv 1)))))) (ad_cons (ed_c pe_int fun _ _ => .int) (ad_cons (ed_c pe_int fun _ _ => .int) ad_nil))))
theorem sc_Ring_as_one : FnScope ["self", "bar", "both"] ["self", "bar"] (defScope s_Ring_as_one) := ⟨rfl, rfl, rfl, by decide +kernel, rfl, by decide +kernel, by decide +kernel⟩
theorem ok_Ring_as_one (T : Tx K mg) (o_Ring_init : HP P w K mg base 4 (He.ma K (He.ga K "Ring") "__init__") ["self", "lengths"] (spO K J1 (sp_Ring_init K))) (o_need_bar : HP P w K mg base 3 (He.ga K "need_bar") ["ring", "value"] (spP K J1 (sp_need_bar K))) (F : Fun K "as_one" "Ring.as_one" s_Ring_as_one (He.ma K (He.ga K "Ring") "as_one") fd) : FnOk P w K mg base (L2.CX P w) 6 (He.ma K (He.ga K "Ring") "as_one") fd ["self", "bar"] (spP K J1 (sp_Ring_as_one K)) := by
  refine okP ok1 F sc_Ring_as_one (len_Ring_as_one K) fun cdv A outer s H E hr => ⟨B_Ring_as_one K, ?_, pu_Ring_as_one K⟩
  have h64 := hr.units
  have h65 : (A.deeper (PyProof.Rows.envOfC "Ring.as_one" (defScope s_Ring_as_one) s.heap.objs.size (He.ma K (He.ga K "Ring") "as_one") cdv)).units + 65 < cLine := by have := hr.un; omega
  have h67 : (A.deeper (PyProof.Rows.envOfC "Ring.as_one" (defScope s_Ring_as_one) s.heap.objs.size (He.ma K (He.ga K "Ring") "as_one") cdv)).units + 67 < cLine := by have := hr.un; omega
  have h1 : (A.deeper (PyProof.Rows.envOfC "Ring.as_one" (defScope s_Ring_as_one) s.heap.objs.size (He.ma K (He.ga K "Ring") "as_one") cdv)).units + 1 < cLine := by have := hr.un; omega
  exact (sd_cons (sd_expr (eh_call o_need_bar (hr.mono (by decide)) T.g_need_bar (takes_of rfl rfl rfl rfl) (ad_cons (ed_var (pv 0)) (ad_cons (ed_var (pv 1)) ad_nil)))) (sd_cons (sd_if (td_eq h64 (ed_var (pv 1)) (ed_m (ed_sub (ed_len T.b_len (ed_m (ed_fld T.c_Ring T.n_Ring_lengths (em_var (pv 0))))) (ed_c pe_int fun _ _ => .int)))) (sd_one (sd_ret (eh_make T.mk_Ring o_Ring_init (hr.mono (by decide)) T.g_Ring (takes_of rfl rfl rfl rfl) (fun _ _ _ _ _ h => h) (ad_cons (ed_f (ef_lst (ad_cons (ed_add (ed_ix (ed_fld T.c_Ring T.n_Ring_lengths (em_var (pv 0))) (ed_var (pv 1))) (ed_ix (ed_fld T.c_Ring T.n_Ring_lengths (em_var (pv 0))) (ed_c pe_int fun _ _ => .int))) (ad_star (ed_slT (ed_fld T.c_Ring T.n_Ring_lengths (em_var (pv 0))) (od_is1 (ed_c pe_int fun _ _ => .int)) (od_is1 (ed_var (pv 1)))) ad_nil)))) ad_nil)))) sd_nil) (sd_cons (sd_set (i := 2) sc_Ring_as_one.nd (ed_add (ed_ix (ed_fld T.c_Ring T.n_Ring_lengths (em_var (pv 0))) (ed_var (pv 1))) (ed_ix (ed_fld T.c_Ring T.n_Ring_lengths (em_var (pv 0))) (ed_add (ed_var (pv 1)) (ed_c pe_int fun _ _ => .int))))) (sd_one (sd_ret (eh_make T.mk_Ring o_Ring_init (hr.mono (by decide)) T.g_Ring (takes_of rfl rfl rfl rfl) (fun _ _ _ _ _ h => h) (ad_cons (ed_f (ef_lst (ad_star (ed_slT (ed_fld T.c_Ring T.n_Ring_lengths (em_var (pv 0))) od_no (od_is1 (ed_var (pv 1)))) (ad_cons (ed_var (pv 2)) (ad_star (ed_slT (ed_fld T.c_Ring T.n_Ring_lengths (em_var (pv 0))) (od_is1 (ed_add (ed_var (pv 1)) (ed_c pe_int fun _ _ => .int))) od_no) ad_nil))))) ad_nil)))))))
theorem sc_first_twice : FnScope ["values", "seen", "value"] ["values"] (defScope s_first_twice) := ⟨rfl, rfl, rfl, by decide +kernel, rfl, by decide +kernel, by decide +kernel⟩
theorem ok_first_twice (T : Tx K mg) (F : Fun K "first_twice" "first_twice" s_first_twice (He.ga K "first_twice") fd) : FnOk P w K mg base (L2.CX P w) 1 (He.ga K "first_twice") fd ["values"] (spP K J1 (sp_first_twice K)) := by
  refine okP ok1 F sc_first_twice (len_first_twice K) fun cdv A outer s H E hr => ⟨B_first_twice K, ?_, pu_first_twice K⟩
  have h64 := hr.units
  have h65 : (A.deeper (PyProof.Rows.envOfC "first_twice" (defScope s_first_twice) s.heap.objs.size (He.ga K "first_twice") cdv)).units + 65 < cLine := by have := hr.un; omega
  have h67 : (A.deeper (PyProof.Rows.envOfC "first_twice" (defScope s_first_twice) s.heap.objs.size (He.ga K "first_twice") cdv)).units + 67 < cLine := by have := hr.un; omega
  have h1 : (A.deeper (PyProof.Rows.envOfC "first_twice" (defScope s_first_twice) s.heap.objs.size (He.ga K "first_twice") cdv)).units + 1 < cLine := by have := hr.un; omega
  exact (sd_cons (sd_setO (i := 1) sc_first_twice.nd ef_dnew) (sd_cons (sd_for (vs := [2]) (passes_of rfl) rfl (id_lt (ed_var (pv 0))) (pg_name (i := 2) sc_first_twice.nd rfl (by first | exact .inl rfl | exact .inr rfl)) (gd_name (by decide)) (sd_cons (sd_if (td_in h65 (ed_var (pv 2)) (em_var (pv 1))) (sd_one (sd_ret (ed_var (pv 2)))) sd_nil) (sd_one (sd_dput h1 (ed_c pe_bl fun _ _ => .bl) (pv 1) (ed_var (pv 2)))))) (sd_one (sd_ret (ed_c pe_non fun _ _ => .non)))))
theorem sc_need_lot_of : FnScope ["many", "value", "part", "bar", "twice"] ["many", "value", "part"] (defScope s_need_lot_of) := ⟨rfl, rfl, rfl, by decide +kernel, rfl, by decide +kernel, by decide +kernel⟩
theorem ok_need_lot_of (T : Tx K mg) (o_is_within : HP P w K mg base 2 (He.ga K "is_within") ["value", "least", "most"] (spP K J1 (sp_is_within K))) (o_is_numbers : HP P w K mg base 2 (He.ga K "is_numbers") ["value"] (spP K J1 (sp_is_numbers K))) (o_first_twice : HP P w K mg base 1 (He.ga K "first_twice") ["values"] (spP K J1 (sp_first_twice K))) (F : Fun K "need_lot_of" "need_lot_of" s_need_lot_of (He.ga K "need_lot_of") fd) : FnOk P w K mg base (L2.CX P w) 3 (He.ga K "need_lot_of") fd ["many", "value", "part"] (spP K J1 (sp_need_lot_of K)) := by
  refine okP ok1 F sc_need_lot_of (len_need_lot_of K) fun cdv A outer s H E hr => ⟨B_need_lot_of K, ?_, pu_need_lot_of K⟩
  have h64 := hr.units
  have h65 : (A.deeper (PyProof.Rows.envOfC "need_lot_of" (defScope s_need_lot_of) s.heap.objs.size (He.ga K "need_lot_of") cdv)).units + 65 < cLine := by have := hr.un; omega
  have h67 : (A.deeper (PyProof.Rows.envOfC "need_lot_of" (defScope s_need_lot_of) s.heap.objs.size (He.ga K "need_lot_of") cdv)).units + 67 < cLine := by have := hr.un; omega
  have h1 : (A.deeper (PyProof.Rows.envOfC "need_lot_of" (defScope s_need_lot_of) s.heap.objs.size (He.ga K "need_lot_of") cdv)).units + 1 < cLine := by have := hr.un; omega
  exact (sd_cons (sd_if (td_not (td_val (eh_call o_is_numbers (hr.mono (by decide)) T.g_is_numbers (takes_of rfl rfl rfl rfl) (ad_cons (ed_var (pv 1)) ad_nil)))) (sd_one sd_no) sd_nil) (sd_cons (sd_for (vs := [3]) (passes_of rfl) rfl (id_lt (ed_var (pv 1))) (pg_name (i := 3) sc_need_lot_of.nd rfl (by first | exact .inl rfl | exact .inr rfl)) (gd_name (by decide)) (sd_one (sd_if (td_not (td_val (eh_call o_is_within (hr.mono (by decide)) T.g_is_within (takes_of rfl rfl rfl rfl) (ad_cons (ed_var (pv 3)) (ad_cons (ed_c pe_int fun _ _ => .int) (ad_cons (ed_sub (ed_var (pv 0)) (ed_c pe_int fun _ _ => .int)) ad_nil)))))) (sd_one sd_no) sd_nil))) (sd_cons (sd_set (i := 4) sc_need_lot_of.nd (eh_call o_first_twice (hr.mono (by decide)) T.g_first_twice (takes_of rfl rfl rfl rfl) (ad_cons (ed_var (pv 1)) ad_nil))) (sd_one (sd_if (td_isn (ed_var (pv 4)) (ed_c pe_non fun _ _ => .non)) (sd_one sd_no) sd_nil)))))
theorem sc_need_lot : FnScope ["ring", "value", "part"] ["ring", "value", "part"] (defScope s_need_lot) := ⟨rfl, rfl, rfl, by decide +kernel, rfl, by decide +kernel, by decide +kernel⟩
theorem ok_need_lot (T : Tx K mg) (o_need_lot_of : HP P w K mg base 3 (He.ga K "need_lot_of") ["many", "value", "part"] (spP K J1 (sp_need_lot_of K))) (F : Fun K "need_lot" "need_lot" s_need_lot (He.ga K "need_lot") fd) : FnOk P w K mg base (L2.CX P w) 4 (He.ga K "need_lot") fd ["ring", "value", "part"] (spP K J1 (sp_need_lot K)) := by
  refine okP ok1 F sc_need_lot (len_need_lot K) fun cdv A outer s H E hr => ⟨B_need_lot K, ?_, pu_need_lot K⟩
  have h64 := hr.units
  have h65 : (A.deeper (PyProof.Rows.envOfC "need_lot" (defScope s_need_lot) s.heap.objs.size (He.ga K "need_lot") cdv)).units + 65 < cLine := by have := hr.un; omega
  have h67 : (A.deeper (PyProof.Rows.envOfC "need_lot" (defScope s_need_lot) s.heap.objs.size (He.ga K "need_lot") cdv)).units + 67 < cLine := by have := hr.un; omega
  have h1 : (A.deeper (PyProof.Rows.envOfC "need_lot" (defScope s_need_lot) s.heap.objs.size (He.ga K "need_lot") cdv)).units + 1 < cLine := by have := hr.un; omega
  exact (sd_one (sd_expr (eh_call o_need_lot_of (hr.mono (by decide)) T.g_need_lot_of (takes_of rfl rfl rfl rfl) (ad_cons (ed_len T.b_len (ed_m (ed_fld T.c_Ring T.n_Ring_lengths (em_var (pv 0))))) (ad_cons (ed_var (pv 1)) (ad_cons (ed_var (pv 2)) ad_nil))))))
theorem sc_Ring_length_of : FnScope ["self", "lot", "bar"] ["self", "lot"] (defScope s_Ring_length_of) := ⟨rfl, rfl, rfl, by decide +kernel, rfl, by decide +kernel, by decide +kernel⟩
theorem ok_Ring_length_of (T : Tx K mg) (o_need_lot : HP P w K mg base 4 (He.ga K "need_lot") ["ring", "value", "part"] (spP K J1 (sp_need_lot K))) (F : Fun K "length_of" "Ring.length_of" s_Ring_length_of (He.ma K (He.ga K "Ring") "length_of") fd) : FnOk P w K mg base (L2.CX P w) 5 (He.ma K (He.ga K "Ring") "length_of") fd ["self", "lot"] (spP K J1 (sp_Ring_length_of K)) := by
  refine okP ok1 F sc_Ring_length_of (len_Ring_length_of K) fun cdv A outer s H E hr => ⟨B_Ring_length_of K, ?_, pu_Ring_length_of K⟩
  have h64 := hr.units
  have h65 : (A.deeper (PyProof.Rows.envOfC "Ring.length_of" (defScope s_Ring_length_of) s.heap.objs.size (He.ma K (He.ga K "Ring") "length_of") cdv)).units + 65 < cLine := by have := hr.un; omega
  have h67 : (A.deeper (PyProof.Rows.envOfC "Ring.length_of" (defScope s_Ring_length_of) s.heap.objs.size (He.ma K (He.ga K "Ring") "length_of") cdv)).units + 67 < cLine := by have := hr.un; omega
  have h1 : (A.deeper (PyProof.Rows.envOfC "Ring.length_of" (defScope s_Ring_length_of) s.heap.objs.size (He.ma K (He.ga K "Ring") "length_of") cdv)).units + 1 < cLine := by have := hr.un; omega
  exact (sd_cons (sd_expr (eh_call o_need_lot (hr.mono (by decide)) T.g_need_lot (takes_of rfl rfl rfl rfl) (ad_cons (ed_var (pv 0)) (ad_cons (ed_var (pv 1)) (ad_cons (ed_c pe_str fun _ _ => .str) ad_nil))))) (sd_one (sd_ret (ed_sum rfl T.b_sum (ed_m (ed_f (ef_lc (own := [("bar", 2)]) rfl sc_Ring_length_of.nd (id_lt (ed_var (pv 1))) (blkOk_by (by first | rfl | kernel_rfl)) (gd_name (by decide)) (fun _ _ _ _ _ => (pg_name (i := 2) sc_Ring_length_of.nd rfl (by first | exact .inl rfl | exact .inr rfl))) (fun _ _ _ _ _ => tds_nil) (fun _ _ _ _ _ => (ed_ix (ed_fld T.c_Ring T.n_Ring_lengths (em_var (pv 0))) (ed_var (pv 2)))))))))))
theorem sc_Ring_sort_of : FnScope ["self", "lot"] ["self", "lot"] (defScope s_Ring_sort_of) := ⟨rfl, rfl, rfl, by decide +kernel, rfl, by decide +kernel, by decide +kernel⟩
theorem ok_Ring_sort_of (T : Tx K mg) (o_sort_in : HP P w K mg base 1 (He.ga K "sort_in") ["ring", "lot"] (spP K J1 (sp_sort_in K))) (o_need_lot : HP P w K mg base 4 (He.ga K "need_lot") ["ring", "value", "part"] (spP K J1 (sp_need_lot K))) (F : Fun K "sort_of" "Ring.sort_of" s_Ring_sort_of (He.ma K (He.ga K "Ring") "sort_of") fd) : FnOk P w K mg base (L2.CX P w) 5 (He.ma K (He.ga K "Ring") "sort_of") fd ["self", "lot"] (spP K J1 (sp_Ring_sort_of K)) := by
  refine okP ok1 F sc_Ring_sort_of (len_Ring_sort_of K) fun cdv A outer s H E hr => ⟨B_Ring_sort_of K, ?_, pu_Ring_sort_of K⟩
  have h64 := hr.units
  have h65 : (A.deeper (PyProof.Rows.envOfC "Ring.sort_of" (defScope s_Ring_sort_of) s.heap.objs.size (He.ma K (He.ga K "Ring") "sort_of") cdv)).units + 65 < cLine := by have := hr.un; omega
  have h67 : (A.deeper (PyProof.Rows.envOfC "Ring.sort_of" (defScope s_Ring_sort_of) s.heap.objs.size (He.ma K (He.ga K "Ring") "sort_of") cdv)).units + 67 < cLine := by have := hr.un; omega
  have h1 : (A.deeper (PyProof.Rows.envOfC "Ring.sort_of" (defScope s_Ring_sort_of) s.heap.objs.size (He.ma K (He.ga K "Ring") "sort_of") cdv)).units + 1 < cLine := by have := hr.un; omega
  exact (sd_cons (sd_expr (eh_call o_need_lot (hr.mono (by decide)) T.g_need_lot (takes_of rfl rfl rfl rfl) (ad_cons (ed_var (pv 0)) (ad_cons (ed_var (pv 1)) (ad_cons (ed_c pe_str fun _ _ => .str) ad_nil))))) (sd_one (sd_ret (eh_call o_sort_in (hr.mono (by decide)) T.g_sort_in (takes_of rfl rfl rfl rfl) (ad_cons (ed_var (pv 0)) (ad_cons (ed_var (pv 1)) ad_nil))))))
theorem sc__law_lots : FnScope ["_law_many", "_law_found", "_law_bar", "_law_lot", "_law_size"] ["_law_many"] (defScope s__law_lots) := ⟨rfl, rfl, rfl, by decide +kernel, rfl, by decide +kernel, by decide +kernel⟩
theorem ok__law_lots (T : Tx K mg) (F : Fun K "_law_lots" "_law_lots" s__law_lots (He.ga K "_law_lots") fd) : FnOk P w K mg base (L2.CX P w) 1 (He.ga K "_law_lots") fd ["_law_many"] (spP K J1 (sp__law_lots K)) := by
  refine okP ok1 F sc__law_lots (len__law_lots K) fun cdv A outer s H E hr => ⟨B__law_lots K, ?_, pu__law_lots K⟩
  have h64 := hr.units
  have h65 : (A.deeper (PyProof.Rows.envOfC "_law_lots" (defScope s__law_lots) s.heap.objs.size (He.ga K "_law_lots") cdv)).units + 65 < cLine := by have := hr.un; omega
  have h67 : (A.deeper (PyProof.Rows.envOfC "_law_lots" (defScope s__law_lots) s.heap.objs.size (He.ga K "_law_lots") cdv)).units + 67 < cLine := by have := hr.un; omega
  have h1 : (A.deeper (PyProof.Rows.envOfC "_law_lots" (defScope s__law_lots) s.heap.objs.size (He.ga K "_law_lots") cdv)).units + 1 < cLine := by have := hr.un; omega
  exact (sd_cons (sd_set (i := 1) sc__law_lots.nd (ed_f (ef_lst (ad_cons (ed_tup ad_nil) ad_nil)))) (sd_cons (sd_for (vs := [2]) (passes_of rfl) rfl (id_r1 T.b_range (ed_var (pv 0))) (pg_name (i := 2) sc__law_lots.nd rfl (by first | exact .inl rfl | exact .inr rfl)) (gd_name (by decide)) (sd_one (sd_set (i := 1) sc__law_lots.nd (ed_add (ed_var (pv 1)) (ed_f (ef_lc (own := [("_law_lot", 3)]) rfl sc__law_lots.nd (id_lt (ed_var (pv 1))) (blkOk_by (by first | rfl | kernel_rfl)) (gd_name (by decide)) (fun _ _ _ _ _ => (pg_name (i := 3) sc__law_lots.nd rfl (by first | exact .inl rfl | exact .inr rfl))) (fun _ _ _ _ _ => tds_nil) (fun _ _ _ _ _ => (ed_add (ed_var (pv 3)) (ed_tup (ad_cons (ed_var (pv 2)) ad_nil)))))))))) (sd_one (sd_ret (ed_f (ef_lc (own := [("_law_size", 4), ("_law_lot", 3)]) rfl sc__law_lots.nd (id_lt (ed_f (ef_sortP h67 T.b_sorted (ed_m (ed_f (ef_lc (own := [("_law_lot", 3)]) rfl sc__law_lots.nd (id_lt (ed_var (pv 1))) (blkOk_by (by first | rfl | kernel_rfl)) (gd_name (by decide)) (fun _ _ _ _ _ => (pg_name (i := 3) sc__law_lots.nd rfl (by first | exact .inl rfl | exact .inr rfl))) (fun _ _ _ _ _ => tds_nil) (fun _ _ _ _ _ => (ed_tup (ad_cons (ed_len T.b_len (em_var (pv 3))) (ad_cons (ed_var (pv 3)) ad_nil)))))))))) (blkOk_by (by first | rfl | kernel_rfl)) (gd_tup (is := [4, 3]) rfl (by decide)) (fun _ _ _ _ _ => (pg_tup rfl (pgs_cons (pg_name (i := 4) sc__law_lots.nd rfl (by first | exact .inl rfl | exact .inr rfl)) (pgs_cons (pg_name (i := 3) sc__law_lots.nd rfl (by first | exact .inl rfl | exact .inr rfl)) pgs_nil)))) (fun _ _ _ _ _ => tds_nil) (fun _ _ _ _ _ => (ed_var (pv 3)))))))))
theorem sc__law_sort : FnScope ["_law_lengths_here", "_law_lot", "_law_mine", "_law_others", "_law_bar", "_law_length"] ["_law_lengths_here", "_law_lot"] (defScope s__law_sort) := ⟨rfl, rfl, rfl, by decide +kernel, rfl, by decide +kernel, by decide +kernel⟩
theorem ok__law_sort (T : Tx K mg) (F : Fun K "_law_sort" "_law_sort" s__law_sort (He.ga K "_law_sort") fd) : FnOk P w K mg base (L2.CX P w) 1 (He.ga K "_law_sort") fd ["_law_lengths_here", "_law_lot"] (spP K J1 (sp__law_sort K)) := by
  refine okP ok1 F sc__law_sort (len__law_sort K) fun cdv A outer s H E hr => ⟨B__law_sort K, ?_, pu__law_sort K⟩
  have h64 := hr.units
  have h65 : (A.deeper (PyProof.Rows.envOfC "_law_sort" (defScope s__law_sort) s.heap.objs.size (He.ga K "_law_sort") cdv)).units + 65 < cLine := by have := hr.un; omega
  have h67 : (A.deeper (PyProof.Rows.envOfC "_law_sort" (defScope s__law_sort) s.heap.objs.size (He.ga K "_law_sort") cdv)).units + 67 < cLine := by have := hr.un; omega
  have h1 : (A.deeper (PyProof.Rows.envOfC "_law_sort" (defScope s__law_sort) s.heap.objs.size (He.ga K "_law_sort") cdv)).units + 1 < cLine := by have := hr.un; omega
  exact (sd_cons (sd_set (i := 2) sc__law_sort.nd (ed_sum rfl T.b_sum (ed_m (ed_f (ef_lc (own := [("_law_bar", 4)]) rfl sc__law_sort.nd (id_lt (ed_var (pv 1))) (blkOk_by (by first | rfl | kernel_rfl)) (gd_name (by decide)) (fun _ _ _ _ _ => (pg_name (i := 4) sc__law_sort.nd rfl (by first | exact .inl rfl | exact .inr rfl))) (fun _ _ _ _ _ => tds_nil) (fun _ _ _ _ _ => (ed_ix (ed_var (pv 0)) (ed_var (pv 4))))))))) (sd_cons (sd_set (i := 3) sc__law_sort.nd (ed_sum rfl T.b_sum (ed_m (ed_f (ef_lc (own := [("_law_bar", 4), ("_law_length", 5)]) rfl sc__law_sort.nd (id_e T.b_enumerate (ed_var (pv 0))) (blkOk_by (by first | rfl | kernel_rfl)) (gd_tup (is := [4, 5]) rfl (by decide)) (fun _ _ _ _ _ => (pg_tup rfl (pgs_cons (pg_name (i := 4) sc__law_sort.nd rfl (by first | exact .inl rfl | exact .inr rfl)) (pgs_cons (pg_name (i := 5) sc__law_sort.nd rfl (by first | exact .inl rfl | exact .inr rfl)) pgs_nil)))) (fun _ _ _ _ _ => tds_one (td_notIn h65 (ed_var (pv 4)) (em_var (pv 1)))) (fun _ _ _ _ _ => (ed_var (pv 5)))))))) (sd_cons (sd_if (td_eq h64 (ed_var (pv 2)) (em_var (pv 3))) (sd_one (sd_ret (ed_c pe_str fun _ _ => .str))) sd_nil) (sd_one (sd_ret (ed_if (td_lt (ed_var (pv 2)) (ed_var (pv 3))) (ed_c pe_str fun _ _ => .str) (ed_c pe_str fun _ _ => .str)))))))
theorem sc__law_together_right : FnScope ["_law_pen_here", "_law_lengths_here", "_law_ring", "_law_many", "_law_bar", "_law_news", "_law_new", "_law_lot", "_law_old", "_law_at"] ["_law_pen_here", "_law_lengths_here"] (defScope s__law_together_right) := ⟨rfl, rfl, rfl, by decide +kernel, rfl, by decide +kernel, by decide +kernel⟩
theorem ok__law_together_right (T : Tx K mg) (o_Ring_init : HP P w K mg base 4 (He.ma K (He.ga K "Ring") "__init__") ["self", "lengths"] (spO K J1 (sp_Ring_init K))) (o__law_draw : HP P w K mg base 1 (He.ga K "_law_draw") ["_law_pen_here", "_law_many"] (spO K J1 (sp__law_draw K))) (o_Ring_as_one : HP P w K mg base 6 (He.ma K (He.ga K "Ring") "as_one") ["self", "bar"] (spP K J1 (sp_Ring_as_one K))) (o_Ring_length_of : HP P w K mg base 5 (He.ma K (He.ga K "Ring") "length_of") ["self", "lot"] (spP K J1 (sp_Ring_length_of K))) (o_Ring_sort_of : HP P w K mg base 5 (He.ma K (He.ga K "Ring") "sort_of") ["self", "lot"] (spP K J1 (sp_Ring_sort_of K))) (o__law_lots : HP P w K mg base 1 (He.ga K "_law_lots") ["_law_many"] (spP K J1 (sp__law_lots K))) (o__law_sort : HP P w K mg base 1 (He.ga K "_law_sort") ["_law_lengths_here", "_law_lot"] (spP K J1 (sp__law_sort K))) (F : Fun K "_law_together_right" "_law_together_right" s__law_together_right (He.ga K "_law_together_right") fd) : FnOk P w K mg base (L2.CX P w) 7 (He.ga K "_law_together_right") fd ["_law_pen_here", "_law_lengths_here"] (spO K J1 (sp__law_together_right K)) := by
  refine okO ok1 F sc__law_together_right (len__law_together_right K) fun cdv A outer s H E hr => ⟨B__law_together_right K, ?_, pu__law_together_right K⟩
  have h64 := hr.units
  have h65 : (A.deeper (PyProof.Rows.envOfC "_law_together_right" (defScope s__law_together_right) s.heap.objs.size (He.ga K "_law_together_right") cdv)).units + 65 < cLine := by have := hr.un; omega
  have h67 : (A.deeper (PyProof.Rows.envOfC "_law_together_right" (defScope s__law_together_right) s.heap.objs.size (He.ga K "_law_together_right") cdv)).units + 67 < cLine := by have := hr.un; omega
  have h1 : (A.deeper (PyProof.Rows.envOfC "_law_together_right" (defScope s__law_together_right) s.heap.objs.size (He.ga K "_law_together_right") cdv)).units + 1 < cLine := by have := hr.un; omega
  exact (sd_cons (sd_parSS (i := 2) (j := 3) rfl sc__law_together_right.nd (eh_make T.mk_Ring o_Ring_init (hr.mono (by decide)) T.g_Ring (takes_of rfl rfl rfl rfl) (fun _ _ _ _ _ h => h) (ad_cons (ed_var (pv 1)) ad_nil)) (ed_len T.b_len (em_var (pv 1)))) (sd_cons (sd_set (i := 4) sc__law_together_right.nd (eh_callO o__law_draw (hr.mono (by decide)) T.g__law_draw (takes_of rfl rfl rfl rfl) (pv 0) (ad_cons (ed_var (pv 3)) ad_nil))) (sd_cons (sd_setLcO (own := [("_law_at", 9)]) (i := 5) rfl sc__law_together_right.nd (sw_true rfl rfl (by rfl) (by first | rfl | kernel_rfl)) (id_r1 T.b_range (ed_var (pv 3))) (blkOk_by (by first | rfl | kernel_rfl)) (gd_name (by decide)) (fun _ _ _ _ _ => (pg_name (i := 9) sc__law_together_right.nd rfl (by first | exact .inl rfl | exact .inr rfl))) (fun _ _ _ _ _ => tds_nil) (fun _ _ _ _ _ => (ed_f (ef_lst (ad_cons (ed_var (pv 9)) ad_nil))))) (sd_cons (sd_sub (ed_f (ef_sorted T.b_sorted (ed_m (ed_f (ef_lst (ad_cons (ed_var (pv 4)) (ad_cons (ed_mod (ed_intc T.b_int (ed_m (ed_add (ed_var (pv 4)) (ed_c pe_int fun _ _ => .int)))) (ed_var (pv 3))) ad_nil))))))) (pv 5) (ed_var (pv 4))) (sd_cons (sd_if (td_eq h64 (ed_var (pv 4)) (ed_m (ed_sub (ed_var (pv 3)) (ed_c pe_int fun _ _ => .int)))) (sds_fz (i := 5) (sd_one (sd_set (i := 5) sc__law_together_right.nd (ed_add (ed_f (ef_lst (ad_cons (ed_ix (ed_var (pv 5)) (ed_var (pv 4))) ad_nil))) (ed_f (ef_sl (ed_var (pv 5)) (od_is1 (ed_c pe_int fun _ _ => .int)) (od_is1 (ed_var (pv 4))))))))) (sd_one (sd_expr (ed_pop (pv 5) (ed_add (ed_var (pv 4)) (ed_c pe_int fun _ _ => .int)))))) (sds_fq (i := 5) (sd_cons (sd_set (i := 6) sc__law_together_right.nd (eh_meth T.c_Ring T.m_Ring_as_one o_Ring_as_one (hr.mono (by decide)) (takes_of rfl rfl rfl rfl) (fun _ _ _ _ _ h => h) (ed_var (pv 2)) (ad_cons (ed_var (pv 4)) ad_nil))) (sd_cons (sd_for (vs := [7]) (passes_of rfl) rfl (id_lt (eh_call o__law_lots (hr.mono (by decide)) T.g__law_lots (takes_of rfl rfl rfl rfl) (ad_cons (ed_sub (ed_var (pv 3)) (ed_c pe_int fun _ _ => .int)) ad_nil))) (pg_name (i := 7) sc__law_together_right.nd rfl (by first | exact .inl rfl | exact .inr rfl)) (gd_name (by decide)) (sd_cons (sd_setO (i := 8) sc__law_together_right.nd (ef_lst ad_nil)) (sd_cons (sd_for (vs := [9]) (passes_of rfl) rfl (id_lt (ed_var (pv 7))) (pg_name (i := 9) sc__law_together_right.nd rfl (by first | exact .inl rfl | exact .inr rfl)) (gd_name (by decide)) (sd_one (sd_extend (pv 8) (ed_ix (ed_var (pv 5)) (ed_var (pv 9)))))) (sds_fz (i := 8) (sd_one (sd_if (wd_or (td_ne h64 (eh_meth T.c_Ring T.m_Ring_sort_of o_Ring_sort_of (hr.mono (by decide)) (takes_of rfl rfl rfl rfl) (fun _ _ _ _ _ h => h) (ed_var (pv 6)) (ad_cons (ed_var (pv 7)) ad_nil)) (ed_m (eh_call o__law_sort (hr.mono (by decide)) T.g__law_sort (takes_of rfl rfl rfl rfl) (ad_cons (ed_var (pv 1)) (ad_cons (ed_var (pv 8)) ad_nil))))) (wd_or1 (td_ne h64 (eh_meth T.c_Ring T.m_Ring_length_of o_Ring_length_of (hr.mono (by decide)) (takes_of rfl rfl rfl rfl) (fun _ _ _ _ _ h => h) (ed_var (pv 6)) (ad_cons (ed_var (pv 7)) ad_nil)) (ed_m (eh_meth T.c_Ring T.m_Ring_length_of o_Ring_length_of (hr.mono (by decide)) (takes_of rfl rfl rfl rfl) (fun _ _ _ _ _ h => h) (ed_var (pv 2)) (ad_cons (ed_var (pv 8)) ad_nil)))))).pt (sd_one (sd_ret (ed_c pe_bl fun _ _ => .bl))) sd_nil)))))) (sd_cons (sd_if (wd_or (wd_and (td_is (ed_fld T.c_Ring T.n_Ring_closes (em_var (pv 6))) (ed_c pe_bl fun _ _ => .bl)) (wd_and1 (td_is (ed_fld T.c_Ring T.n_Ring_closes (em_var (pv 2))) (ed_c pe_bl fun _ _ => .bl)))).pt (wd_or1 (wd_and (td_is (ed_fld T.c_Ring T.n_Ring_is_clear (em_var (pv 2))) (ed_c pe_bl fun _ _ => .bl)) (wd_and1 (td_is (ed_fld T.c_Ring T.n_Ring_is_clear (em_var (pv 6))) (ed_c pe_bl fun _ _ => .bl)))).pt)).pt (sd_one (sd_ret (ed_c pe_bl fun _ _ => .bl))) sd_nil) (sd_one (sd_ret (ed_eq h64 (ed_fld T.c_Ring T.n_Ring_total (em_var (pv 6))) (ed_m (ed_fld T.c_Ring T.n_Ring_total (em_var (pv 2))))))))))))))))
theorem sc_Ring_in_two : FnScope ["self", "bar", "length"] ["self", "bar", "length"] (defScope s_Ring_in_two) := ⟨rfl, rfl, rfl, by decide +kernel, rfl, by decide +kernel, by decide +kernel⟩
theorem ok_Ring_in_two (T : Tx K mg) (o_is_within : HP P w K mg base 2 (He.ga K "is_within") ["value", "least", "most"] (spP K J1 (sp_is_within K))) (o_Ring_init : HP P w K mg base 4 (He.ma K (He.ga K "Ring") "__init__") ["self", "lengths"] (spO K J1 (sp_Ring_init K))) (o_need_bar : HP P w K mg base 3 (He.ga K "need_bar") ["ring", "value"] (spP K J1 (sp_need_bar K))) (F : Fun K "in_two" "Ring.in_two" s_Ring_in_two (He.ma K (He.ga K "Ring") "in_two") fd) : FnOk P w K mg base (L2.CX P w) 6 (He.ma K (He.ga K "Ring") "in_two") fd ["self", "bar", "length"] (spP K J1 (sp_Ring_in_two K)) := by
  refine okP ok1 F sc_Ring_in_two (len_Ring_in_two K) fun cdv A outer s H E hr => ⟨B_Ring_in_two K, ?_, pu_Ring_in_two K⟩
  have h64 := hr.units
  have h65 : (A.deeper (PyProof.Rows.envOfC "Ring.in_two" (defScope s_Ring_in_two) s.heap.objs.size (He.ma K (He.ga K "Ring") "in_two") cdv)).units + 65 < cLine := by have := hr.un; omega
  have h67 : (A.deeper (PyProof.Rows.envOfC "Ring.in_two" (defScope s_Ring_in_two) s.heap.objs.size (He.ma K (He.ga K "Ring") "in_two") cdv)).units + 67 < cLine := by have := hr.un; omega
  have h1 : (A.deeper (PyProof.Rows.envOfC "Ring.in_two" (defScope s_Ring_in_two) s.heap.objs.size (He.ma K (He.ga K "Ring") "in_two") cdv)).units + 1 < cLine := by have := hr.un; omega
  exact (sd_cons (sd_expr (eh_call o_need_bar (hr.mono (by decide)) T.g_need_bar (takes_of rfl rfl rfl rfl) (ad_cons (ed_var (pv 0)) (ad_cons (ed_var (pv 1)) ad_nil)))) (sd_cons (sd_if (td_not (td_val (eh_call o_is_within (hr.mono (by decide)) T.g_is_within (takes_of rfl rfl rfl rfl) (ad_cons (ed_var (pv 2)) (ad_cons (ed_c pe_int fun _ _ => .int) (ad_cons (ed_sub (ed_ix (ed_fld T.c_Ring T.n_Ring_lengths (em_var (pv 0))) (ed_var (pv 1))) (ed_c pe_int fun _ _ => .int)) ad_nil)))))) (sd_one sd_no) sd_nil) (sd_one (sd_ret (eh_make T.mk_Ring o_Ring_init (hr.mono (by decide)) T.g_Ring (takes_of rfl rfl rfl rfl) (fun _ _ _ _ _ h => h) (ad_cons (ed_f (ef_lst (ad_star (ed_slT (ed_fld T.c_Ring T.n_Ring_lengths (em_var (pv 0))) od_no (od_is1 (ed_var (pv 1)))) (ad_cons (ed_var (pv 2)) (ad_cons (ed_sub (ed_ix (ed_fld T.c_Ring T.n_Ring_lengths (em_var (pv 0))) (ed_var (pv 1))) (ed_var (pv 2))) (ad_star (ed_slT (ed_fld T.c_Ring T.n_Ring_lengths (em_var (pv 0))) (od_is1 (ed_add (ed_var (pv 1)) (ed_c pe_int fun _ _ => .int))) od_no) ad_nil)))))) ad_nil))))))
theorem sc__law_pick : FnScope ["_law_pen_here", "_law_some"] ["_law_pen_here", "_law_some"] (defScope s__law_pick) := ⟨rfl, rfl, rfl, by decide +kernel, rfl, by decide +kernel, by decide +kernel⟩
theorem ok__law_pick (T : Tx K mg) (o__law_draw : HP P w K mg base 1 (He.ga K "_law_draw") ["_law_pen_here", "_law_many"] (spO K J1 (sp__law_draw K))) (F : Fun K "_law_pick" "_law_pick" s__law_pick (He.ga K "_law_pick") fd) : FnOk P w K mg base (L2.CX P w) 2 (He.ga K "_law_pick") fd ["_law_pen_here", "_law_some"] (spO K J1 (sp__law_pick K)) := by
  refine okO ok1 F sc__law_pick (len__law_pick K) fun cdv A outer s H E hr => ⟨B__law_pick K, ?_, pu__law_pick K⟩
  have h64 := hr.units
  have h65 : (A.deeper (PyProof.Rows.envOfC "_law_pick" (defScope s__law_pick) s.heap.objs.size (He.ga K "_law_pick") cdv)).units + 65 < cLine := by have := hr.un; omega
  have h67 : (A.deeper (PyProof.Rows.envOfC "_law_pick" (defScope s__law_pick) s.heap.objs.size (He.ga K "_law_pick") cdv)).units + 67 < cLine := by have := hr.un; omega
  have h1 : (A.deeper (PyProof.Rows.envOfC "_law_pick" (defScope s__law_pick) s.heap.objs.size (He.ga K "_law_pick") cdv)).units + 1 < cLine := by have := hr.un; omega
  exact (sd_one (sd_ret (ed_ix (ed_var (pv 1)) (eh_callO o__law_draw (hr.mono (by decide)) T.g__law_draw (takes_of rfl rfl rfl rfl) (pv 0) (ad_cons (ed_len T.b_len (em_var (pv 1))) ad_nil)))))
theorem sc__law_two_right : FnScope ["_law_pen_here", "_law_lengths_here", "_law_ring", "_law_many", "_law_bar", "_law_new", "_law_lot", "_law_moved", "_law_at"] ["_law_pen_here", "_law_lengths_here"] (defScope s__law_two_right) := ⟨rfl, rfl, rfl, by decide +kernel, rfl, by decide +kernel, by decide +kernel⟩
theorem ok__law_two_right (T : Tx K mg) (o_Ring_init : HP P w K mg base 4 (He.ma K (He.ga K "Ring") "__init__") ["self", "lengths"] (spO K J1 (sp_Ring_init K))) (o__law_draw : HP P w K mg base 1 (He.ga K "_law_draw") ["_law_pen_here", "_law_many"] (spO K J1 (sp__law_draw K))) (o_Ring_length_of : HP P w K mg base 5 (He.ma K (He.ga K "Ring") "length_of") ["self", "lot"] (spP K J1 (sp_Ring_length_of K))) (o_Ring_sort_of : HP P w K mg base 5 (He.ma K (He.ga K "Ring") "sort_of") ["self", "lot"] (spP K J1 (sp_Ring_sort_of K))) (o__law_lots : HP P w K mg base 1 (He.ga K "_law_lots") ["_law_many"] (spP K J1 (sp__law_lots K))) (o_Ring_in_two : HP P w K mg base 6 (He.ma K (He.ga K "Ring") "in_two") ["self", "bar", "length"] (spP K J1 (sp_Ring_in_two K))) (o__law_pick : HP P w K mg base 2 (He.ga K "_law_pick") ["_law_pen_here", "_law_some"] (spO K J1 (sp__law_pick K))) (F : Fun K "_law_two_right" "_law_two_right" s__law_two_right (He.ga K "_law_two_right") fd) : FnOk P w K mg base (L2.CX P w) 7 (He.ga K "_law_two_right") fd ["_law_pen_here", "_law_lengths_here"] (spO K J1 (sp__law_two_right K)) := by
  refine okO ok1 F sc__law_two_right (len__law_two_right K) fun cdv A outer s H E hr => ⟨B__law_two_right K, ?_, pu__law_two_right K⟩
  have h64 := hr.units
  have h65 : (A.deeper (PyProof.Rows.envOfC "_law_two_right" (defScope s__law_two_right) s.heap.objs.size (He.ga K "_law_two_right") cdv)).units + 65 < cLine := by have := hr.un; omega
  have h67 : (A.deeper (PyProof.Rows.envOfC "_law_two_right" (defScope s__law_two_right) s.heap.objs.size (He.ga K "_law_two_right") cdv)).units + 67 < cLine := by have := hr.un; omega
  have h1 : (A.deeper (PyProof.Rows.envOfC "_law_two_right" (defScope s__law_two_right) s.heap.objs.size (He.ga K "_law_two_right") cdv)).units + 1 < cLine := by have := hr.un; omega
  exact (sd_cons (sd_parSS (i := 2) (j := 3) rfl sc__law_two_right.nd (eh_make T.mk_Ring o_Ring_init (hr.mono (by decide)) T.g_Ring (takes_of rfl rfl rfl rfl) (fun _ _ _ _ _ h => h) (ad_cons (ed_var (pv 1)) ad_nil)) (ed_len T.b_len (em_var (pv 1)))) (sd_cons (sd_set (i := 4) sc__law_two_right.nd (eh_callO o__law_pick (hr.mono (by decide)) T.g__law_pick (takes_of rfl rfl rfl rfl) (pv 0) (ad_cons (ed_f (ef_lc (own := [("_law_at", 8)]) rfl sc__law_two_right.nd (id_r1 T.b_range (ed_var (pv 3))) (blkOk_by (by first | rfl | kernel_rfl)) (gd_name (by decide)) (fun _ _ _ _ _ => (pg_name (i := 8) sc__law_two_right.nd rfl (by first | exact .inl rfl | exact .inr rfl))) (fun _ _ _ _ _ => tds_one (td_gt (ed_ix (ed_var (pv 1)) (ed_var (pv 8))) (ed_c pe_int fun _ _ => .int))) (fun _ _ _ _ _ => (ed_var (pv 8))))) ad_nil))) (sd_cons (sd_set (i := 5) sc__law_two_right.nd (eh_meth T.c_Ring T.m_Ring_in_two o_Ring_in_two (hr.mono (by decide)) (takes_of rfl rfl rfl rfl) (fun _ _ _ _ _ h => h) (ed_var (pv 2)) (ad_cons (ed_var (pv 4)) (ad_cons (ed_add (ed_c pe_int fun _ _ => .int) (eh_callO o__law_draw (hr.mono (by decide)) T.g__law_draw (takes_of rfl rfl rfl rfl) (pv 0) (ad_cons (ed_sub (ed_ix (ed_var (pv 1)) (ed_var (pv 4))) (ed_c pe_int fun _ _ => .int)) ad_nil))) ad_nil)))) (sd_cons (sd_for (vs := [6]) (passes_of rfl) rfl (id_lt (eh_call o__law_lots (hr.mono (by decide)) T.g__law_lots (takes_of rfl rfl rfl rfl) (ad_cons (ed_var (pv 3)) ad_nil))) (pg_name (i := 6) sc__law_two_right.nd rfl (by first | exact .inl rfl | exact .inr rfl)) (gd_name (by decide)) (sd_cons (sd_set (i := 7) sc__law_two_right.nd (ed_add (ed_f (ef_lc (own := [("_law_at", 8)]) rfl sc__law_two_right.nd (id_lt (ed_var (pv 6))) (blkOk_by (by first | rfl | kernel_rfl)) (gd_name (by decide)) (fun _ _ _ _ _ => (pg_name (i := 8) sc__law_two_right.nd rfl (by first | exact .inl rfl | exact .inr rfl))) (fun _ _ _ _ _ => tds_nil) (fun _ _ _ _ _ => (ed_add (ed_var (pv 8)) (ed_intc T.b_int (ed_m (ed_gt (ed_var (pv 8)) (ed_var (pv 4))))))))) (ed_if (td_in h65 (ed_var (pv 4)) (em_var (pv 6))) (ed_f (ef_lst (ad_cons (ed_add (ed_var (pv 4)) (ed_c pe_int fun _ _ => .int)) ad_nil))) (ed_f (ef_lst ad_nil))))) (sd_one (sd_if (wd_or (td_ne h64 (eh_meth T.c_Ring T.m_Ring_sort_of o_Ring_sort_of (hr.mono (by decide)) (takes_of rfl rfl rfl rfl) (fun _ _ _ _ _ h => h) (ed_var (pv 5)) (ad_cons (ed_var (pv 7)) ad_nil)) (ed_m (eh_meth T.c_Ring T.m_Ring_sort_of o_Ring_sort_of (hr.mono (by decide)) (takes_of rfl rfl rfl rfl) (fun _ _ _ _ _ h => h) (ed_var (pv 2)) (ad_cons (ed_var (pv 6)) ad_nil)))) (wd_or1 (td_ne h64 (eh_meth T.c_Ring T.m_Ring_length_of o_Ring_length_of (hr.mono (by decide)) (takes_of rfl rfl rfl rfl) (fun _ _ _ _ _ h => h) (ed_var (pv 5)) (ad_cons (ed_var (pv 7)) ad_nil)) (ed_m (eh_meth T.c_Ring T.m_Ring_length_of o_Ring_length_of (hr.mono (by decide)) (takes_of rfl rfl rfl rfl) (fun _ _ _ _ _ h => h) (ed_var (pv 2)) (ad_cons (ed_var (pv 6)) ad_nil)))))).pt (sd_one (sd_ret (ed_c pe_bl fun _ _ => .bl))) sd_nil)))) (sd_one (sd_ret (ed_or (ed_is (ed_fld T.c_Ring T.n_Ring_closes (em_var (pv 5))) (ed_c pe_bl fun _ _ => .bl)) (ed_one (ed_is (ed_fld T.c_Ring T.n_Ring_closes (em_var (pv 2))) (ed_c pe_bl fun _ _ => .bl))))))))))
theorem sc_law : FnScope ["_law_script", "_law_pen_here", "_law_lap", "_law_lengths_here"] ["_law_script"] (defScope s_law) := ⟨rfl, rfl, rfl, by decide +kernel, rfl, by decide +kernel, by decide +kernel⟩
theorem ok_law (T : Tx K mg) (o__law_anew_right : HP P w K mg base 7 (He.ga K "_law_anew_right") ["_law_pen_here", "_law_lengths_here"] (spO K J1 (sp__law_anew_right K))) (o__law_lengths : HP P w K mg base 2 (He.ga K "_law_lengths") ["_law_pen_here"] (spO K J1 (sp__law_lengths K))) (o__law_pen : HP P w K mg base 1 (He.ga K "_law_pen") ["_law_script"] (spF K J1 (sp__law_pen K))) (o__law_together_right : HP P w K mg base 7 (He.ga K "_law_together_right") ["_law_pen_here", "_law_lengths_here"] (spO K J1 (sp__law_together_right K))) (o__law_two_right : HP P w K mg base 7 (He.ga K "_law_two_right") ["_law_pen_here", "_law_lengths_here"] (spO K J1 (sp__law_two_right K))) (F : Fun K "law" "law" s_law (He.ga K "law") fd) : FnOk P w K mg base (L2.CX P w) 8 (He.ga K "law") fd ["_law_script"] (spP K J1 (sp_law K)) := by
  refine okP ok1 F sc_law (len_law K) fun cdv A outer s H E hr => ⟨B_law K, ?_, pu_law K⟩
  have h64 := hr.units
  have h65 : (A.deeper (PyProof.Rows.envOfC "law" (defScope s_law) s.heap.objs.size (He.ga K "law") cdv)).units + 65 < cLine := by have := hr.un; omega
  have h67 : (A.deeper (PyProof.Rows.envOfC "law" (defScope s_law) s.heap.objs.size (He.ga K "law") cdv)).units + 67 < cLine := by have := hr.un; omega
  have h1 : (A.deeper (PyProof.Rows.envOfC "law" (defScope s_law) s.heap.objs.size (He.ga K "law") cdv)).units + 1 < cLine := by have := hr.un; omega
  exact (sd_cons (sd_setO (i := 1) sc_law.nd (eh_callF o__law_pen (hr.mono (by decide)) T.g__law_pen (takes_of rfl rfl rfl rfl) (ad_cons (ed_var (pv 0)) ad_nil))) (sd_cons (sd_for (vs := [2]) (passes_of rfl) rfl (id_r1 T.b_range (ed_c pe_int fun _ _ => .int)) (pg_name (i := 2) sc_law.nd rfl (by first | exact .inl rfl | exact .inr rfl)) (gd_name (by decide)) (sd_cons (sd_set (i := 3) sc_law.nd (eh_callO o__law_lengths (hr.mono (by decide)) T.g__law_lengths (takes_of rfl rfl rfl rfl) (pv 1) ad_nil)) (sd_cons (sd_if (wd_and (td_gt (ed_len T.b_len (em_var (pv 3))) (ed_c pe_int fun _ _ => .int)) (wd_and (td_le (ed_max rfl h64 T.b_max (em_var (pv 3))) (ed_c pe_int fun _ _ => .int)) (wd_and1 (td_not (td_val (eh_callO o__law_together_right (hr.mono (by decide)) T.g__law_together_right (takes_of rfl rfl rfl rfl) (pv 1) (ad_cons (ed_var (pv 3)) ad_nil))))))).pt (sd_one (sd_ret (ed_c pe_bl fun _ _ => .bl))) sd_nil) (sd_cons (sd_if (wd_and (td_lt (ed_len T.b_len (em_var (pv 3))) (ed_c pe_int fun _ _ => .int)) (wd_and (td_gt (ed_max rfl h64 T.b_max (em_var (pv 3))) (ed_c pe_int fun _ _ => .int)) (wd_and1 (td_not (td_val (eh_callO o__law_two_right (hr.mono (by decide)) T.g__law_two_right (takes_of rfl rfl rfl rfl) (pv 1) (ad_cons (ed_var (pv 3)) ad_nil))))))).pt (sd_one (sd_ret (ed_c pe_bl fun _ _ => .bl))) sd_nil) (sd_one (sd_if (td_not (td_val (eh_callO o__law_anew_right (hr.mono (by decide)) T.g__law_anew_right (takes_of rfl rfl rfl rfl) (pv 1) (ad_cons (ed_var (pv 3)) ad_nil)))) (sd_one (sd_ret (ed_c pe_bl fun _ _ => .bl))) sd_nil)))))) (sd_one (sd_ret (ed_c pe_bl fun _ _ => .bl)))))
end
end KT

set_option Elab.async false
set_option linter.all false
set_option maxRecDepth 100000
set_option maxHeartbeats 0

/-! Printed by a program of mine: the head. -/
namespace KT
open PySem PySem.Spec PyProof.Rows L2 DV
def d_is_integer : He.DefD := ⟨("is_integer", none), "is_integer", "is_integer", defArgs s_is_integer, defBody s_is_integer, defScope s_is_integer, [], []⟩
def d_is_within : He.DefD := ⟨("is_within", none), "is_within", "is_within", defArgs s_is_within, defBody s_is_within, defScope s_is_within, [], []⟩
def d_are_lengths : He.DefD := ⟨("are_lengths", none), "are_lengths", "are_lengths", defArgs s_are_lengths, defBody s_are_lengths, defScope s_are_lengths, [], []⟩
def d_sums_of : He.DefD := ⟨("sums_of", none), "sums_of", "sums_of", defArgs s_sums_of, defBody s_sums_of, defScope s_sums_of, [], []⟩
def d_Ring_init : He.DefD := ⟨("Ring", some "__init__"), "__init__", "Ring.__init__", defArgs s_Ring_init, defBody s_Ring_init, defScope s_Ring_init, [], []⟩
def d_Ring_backwards : He.DefD := ⟨("Ring", some "backwards"), "backwards", "Ring.backwards", defArgs s_Ring_backwards, defBody s_Ring_backwards, defScope s_Ring_backwards, [], []⟩
def d_need_bar : He.DefD := ⟨("need_bar", none), "need_bar", "need_bar", defArgs s_need_bar, defBody s_need_bar, defScope s_need_bar, [], []⟩
def d_Ring_begun_at : He.DefD := ⟨("Ring", some "begun_at"), "begun_at", "Ring.begun_at", defArgs s_Ring_begun_at, defBody s_Ring_begun_at, defScope s_Ring_begun_at, [], []⟩
def d_is_numbers : He.DefD := ⟨("is_numbers", none), "is_numbers", "is_numbers", defArgs s_is_numbers, defBody s_is_numbers, defScope s_is_numbers, [], []⟩
def d_Ring_in_order : He.DefD := ⟨("Ring", some "in_order"), "in_order", "Ring.in_order", defArgs s_Ring_in_order, defBody s_Ring_in_order, defScope s_Ring_in_order, [], []⟩
def d__law_draw : He.DefD := ⟨("_law_draw", none), "_law_draw", "_law_draw", defArgs s__law_draw, defBody s__law_draw, defScope s__law_draw, [], []⟩
def d__law_lots_anew : He.DefD := ⟨("_law_lots_anew", none), "_law_lots_anew", "_law_lots_anew", defArgs s__law_lots_anew, defBody s__law_lots_anew, defScope s__law_lots_anew, [], []⟩
def d__law_mixed : He.DefD := ⟨("_law_mixed", none), "_law_mixed", "_law_mixed", defArgs s__law_mixed, defBody s__law_mixed, defScope s__law_mixed, [], []⟩
def d_lots_of : He.DefD := ⟨("lots_of", none), "lots_of", "lots_of", defArgs s_lots_of, defBody s_lots_of, defScope s_lots_of, [], []⟩
def d_sort_in : He.DefD := ⟨("sort_in", none), "sort_in", "sort_in", defArgs s_sort_in, defBody s_sort_in, defScope s_sort_in, [], []⟩
def d_lots_sorted : He.DefD := ⟨("lots_sorted", none), "lots_sorted", "lots_sorted", defArgs s_lots_sorted, defBody s_lots_sorted, defScope s_lots_sorted, [], []⟩
def d_need_ring : He.DefD := ⟨("need_ring", none), "need_ring", "need_ring", defArgs s_need_ring, defBody s_need_ring, defScope s_need_ring, [], []⟩
def d_greatest_short : He.DefD := ⟨("greatest_short", none), "greatest_short", "greatest_short", defArgs s_greatest_short, defBody s_greatest_short, defScope s_greatest_short, [], []⟩
def d_less_by_one : He.DefD := ⟨("less_by_one", none), "less_by_one", "less_by_one", defArgs s_less_by_one, defBody s_less_by_one, defScope s_less_by_one, [], []⟩
def d_least_long : He.DefD := ⟨("least_long", none), "least_long", "least_long", defArgs s_least_long, defBody s_least_long, defScope s_least_long, [], []⟩
def d_level_lots : He.DefD := ⟨("level_lots", none), "level_lots", "level_lots", defArgs s_level_lots, defBody s_level_lots, defScope s_level_lots, [], []⟩
def d_short_lots : He.DefD := ⟨("short_lots", none), "short_lots", "short_lots", defArgs s_short_lots, defBody s_short_lots, defScope s_short_lots, [], []⟩
def d__law_anew_right : He.DefD := ⟨("_law_anew_right", none), "_law_anew_right", "_law_anew_right", defArgs s__law_anew_right, defBody s__law_anew_right, defScope s__law_anew_right, [], []⟩
def d__law_lengths : He.DefD := ⟨("_law_lengths", none), "_law_lengths", "_law_lengths", defArgs s__law_lengths, defBody s__law_lengths, defScope s__law_lengths, [], []⟩
def d__law_pen : He.DefD := ⟨("_law_pen", none), "_law_pen", "_law_pen", defArgs s__law_pen, defBody s__law_pen, defScope s__law_pen, [], []⟩
def d_Ring_as_one : He.DefD := ⟨("Ring", some "as_one"), "as_one", "Ring.as_one", defArgs s_Ring_as_one, defBody s_Ring_as_one, defScope s_Ring_as_one, [], []⟩
def d_first_twice : He.DefD := ⟨("first_twice", none), "first_twice", "first_twice", defArgs s_first_twice, defBody s_first_twice, defScope s_first_twice, [], []⟩
def d_need_lot_of : He.DefD := ⟨("need_lot_of", none), "need_lot_of", "need_lot_of", defArgs s_need_lot_of, defBody s_need_lot_of, defScope s_need_lot_of, [], []⟩
def d_need_lot : He.DefD := ⟨("need_lot", none), "need_lot", "need_lot", defArgs s_need_lot, defBody s_need_lot, defScope s_need_lot, [], []⟩
def d_Ring_length_of : He.DefD := ⟨("Ring", some "length_of"), "length_of", "Ring.length_of", defArgs s_Ring_length_of, defBody s_Ring_length_of, defScope s_Ring_length_of, [], []⟩
def d_Ring_sort_of : He.DefD := ⟨("Ring", some "sort_of"), "sort_of", "Ring.sort_of", defArgs s_Ring_sort_of, defBody s_Ring_sort_of, defScope s_Ring_sort_of, [], []⟩
def d__law_lots : He.DefD := ⟨("_law_lots", none), "_law_lots", "_law_lots", defArgs s__law_lots, defBody s__law_lots, defScope s__law_lots, [], []⟩
def d__law_sort : He.DefD := ⟨("_law_sort", none), "_law_sort", "_law_sort", defArgs s__law_sort, defBody s__law_sort, defScope s__law_sort, [], []⟩
def d__law_together_right : He.DefD := ⟨("_law_together_right", none), "_law_together_right", "_law_together_right", defArgs s__law_together_right, defBody s__law_together_right, defScope s__law_together_right, [], []⟩
def d_Ring_in_two : He.DefD := ⟨("Ring", some "in_two"), "in_two", "Ring.in_two", defArgs s_Ring_in_two, defBody s_Ring_in_two, defScope s_Ring_in_two, [], []⟩
def d__law_pick : He.DefD := ⟨("_law_pick", none), "_law_pick", "_law_pick", defArgs s__law_pick, defBody s__law_pick, defScope s__law_pick, [], []⟩
def d__law_two_right : He.DefD := ⟨("_law_two_right", none), "_law_two_right", "_law_two_right", defArgs s__law_two_right, defBody s__law_two_right, defScope s__law_two_right, [], []⟩
def d_law : He.DefD := ⟨("law", none), "law", "law", defArgs s_law, defBody s_law, defScope s_law, [], []⟩
def fn : List He.DefD := [d_is_integer, d_is_within, d_are_lengths, d_sums_of, d_Ring_init, d_Ring_backwards, d_need_bar, d_Ring_begun_at, d_is_numbers, d_Ring_in_order, d__law_draw, d__law_lots_anew, d__law_mixed, d_lots_of, d_sort_in, d_lots_sorted, d_need_ring, d_greatest_short, d_less_by_one, d_least_long, d_level_lots, d_short_lots, d__law_anew_right, d__law_lengths, d__law_pen, d_Ring_as_one, d_first_twice, d_need_lot_of, d_need_lot, d_Ring_length_of, d_Ring_sort_of, d__law_lots, d__law_sort, d__law_together_right, d_Ring_in_two, d__law_pick, d__law_two_right, d_law]
def fa : List He.Fa := [.glo "Ring", .glo "_law_anew_right", .glo "_law_draw", .glo "_law_lengths", .glo "_law_lots", .glo "_law_lots_anew", .glo "_law_mixed", .glo "_law_pen", .glo "_law_pick", .glo "_law_sort", .glo "_law_together_right", .glo "_law_two_right", .glo "are_lengths", .glo "first_twice", .glo "greatest_short", .glo "is_integer", .glo "is_numbers", .glo "is_within", .glo "least_long", .glo "less_by_one", .glo "level_lots", .glo "lots_of", .glo "lots_sorted", .glo "need_bar", .glo "need_lot", .glo "need_lot_of", .glo "need_ring", .glo "short_lots", .glo "sort_in", .glo "sums_of", .free "abs", .free "all", .free "any", .free "bool", .free "enumerate", .free "int", .free "isinstance", .free "len", .free "list", .free "max", .free "range", .free "sorted", .free "sum", .free "tuple", .int "LEAST_BARS" 3, .int "MOST_BARS" 8, .int "MOST_LENGTH" 1000000, .cls "Ring", .noat "Ring" "closes", .noat "Ring" "is_clear", .noat "Ring" "lengths", .noat "Ring" "total", .meth "Ring" "as_one", .meth "Ring" "backwards", .meth "Ring" "begun_at", .meth "Ring" "in_order", .meth "Ring" "in_two", .meth "Ring" "length_of", .meth "Ring" "sort_of", .mkr "Ring", .glo "law"]
def isB (K : PySem.W.Frag) (C : Addr) : Bool := He.eqO (PySem.W.findIn K (.ref C) "__class__") (some (some (.builtin "object.__class__"))) && (He.eqO (PySem.W.specialIn K (.builtin "object.__class__") "__get__") (some (some (.builtin "getset_descriptor.__get__"))) && (decide (PySem.W.takesIn K (.builtin "object.__class__") = some true) && decide (PySem.W.mroIn K C (.type "object") = some true)))
def ex (K : PySem.W.Frag) : Bool := isB K (He.ga K "Ring")
theorem isB_ok {K : PySem.W.Frag} {C : Addr} (c : Cls K C) (h : isB K C = true) : IsC K C := by
  obtain ⟨h1, h⟩ := He.ba h
  obtain ⟨h2, h⟩ := He.ba h
  obtain ⟨h3, h4⟩ := He.ba h
  exact ⟨c, He.eqO_ok h1, He.eqO_ok h2, of_decide_eq_true h3, of_decide_eq_true h4⟩
abbrev R : PySem.W.OpenRow := PySem.W.OpenLaw.row PySem.Challenge.rw_ringbars_k10_bars_put_together
def hk : PySem.W.Hook where
  α := He.AlD × Bool
  obs := fun s => (He.obsDG 4 fa fn s.heap.get?, ex (He.frG s.heap.get? (He.asD s.heap.get? 4)))
  val := fun _ => (He.valD fn, true)
  says := fun _ h => ∃ K : PySem.W.Frag, K.In h ∧ He.SaysD fa fn K ∧ ex K = true
  of := fun _ _ e => ⟨_, He.frG_in, congrArg (fun z : He.AlD × Bool => z.1) e, congrArg (fun z : He.AlD × Bool => z.2) e⟩
  keeps := fun _ _ _ ⟨K, hK, c⟩ k => ⟨K, PySem.W.Frag.In.keeps hK k, c⟩
def ob (s : PySem.W.SharedT) : He.AlD × Bool := (He.obsDG 4 fa fn (HandSHeadRun.getT s), ex (He.frG (HandSHeadRun.getT s) (He.asD (HandSHeadRun.getT s) 4)))
theorem ob_eq (s : PySem.W.SharedT) : ob s = hk.obs s.abs := by
  have e : HandSHeadRun.getT s = s.abs.heap.get? := funext (HandSHeadRun.getT_eq s)
  show (_, _) = (_, _)
  rw [e]
def loose0 : List PySem.Str := ["_wall", "DIGITS", "is_integer", "is_within", "is_numbers", "first_twice", "RingError", "BadRing", "BadLot", "BadNumber", "Missing", "NoBar", "Twice", "TooMany", "BadText", "MOST_DIGITS", "number_in", "Scan", "LEAST_BARS", "MOST_BARS", "MOST_LENGTH", "are_lengths", "sums_of", "Ring", "sort_in", "need_bar", "need_lot", "need_lot_of", "need_ring", "lots_of"]
def loose1 : List PySem.Str := ["lots_sorted", "short_lots", "level_lots", "less_by_one", "least_long", "greatest_short", "_law_pen", "_law_draw", "_law_pick", "_law_mixed", "_law_lengths", "_law_lots", "_law_sort", "_law_together_right", "_law_two_right", "_law_lots_anew", "_law_anew_right"]
def loose : List PySem.Str := loose0 ++ loose1
theorem run (w : World) : HandSHeadRun.RunEq R (PySem.W.view R.prog [53]) hk ob 6000 loose w := by
  intro os
  kernel_rfl
theorem tx {K : PySem.W.Frag} {h : Heap} {mg : Str → Option Value} (X : K.In h) (G : h.Ns mainGlobals mg) (c : He.SaysD fa fn K) (e : ex K = true) : Tx K mg where
  g_Ring := He.glo_ok X G (c.fact 0 rfl)
  g__law_anew_right := He.glo_ok X G (c.fact 1 rfl)
  g__law_draw := He.glo_ok X G (c.fact 2 rfl)
  g__law_lengths := He.glo_ok X G (c.fact 3 rfl)
  g__law_lots := He.glo_ok X G (c.fact 4 rfl)
  g__law_lots_anew := He.glo_ok X G (c.fact 5 rfl)
  g__law_mixed := He.glo_ok X G (c.fact 6 rfl)
  g__law_pen := He.glo_ok X G (c.fact 7 rfl)
  g__law_pick := He.glo_ok X G (c.fact 8 rfl)
  g__law_sort := He.glo_ok X G (c.fact 9 rfl)
  g__law_together_right := He.glo_ok X G (c.fact 10 rfl)
  g__law_two_right := He.glo_ok X G (c.fact 11 rfl)
  g_are_lengths := He.glo_ok X G (c.fact 12 rfl)
  g_first_twice := He.glo_ok X G (c.fact 13 rfl)
  g_greatest_short := He.glo_ok X G (c.fact 14 rfl)
  g_is_integer := He.glo_ok X G (c.fact 15 rfl)
  g_is_numbers := He.glo_ok X G (c.fact 16 rfl)
  g_is_within := He.glo_ok X G (c.fact 17 rfl)
  g_least_long := He.glo_ok X G (c.fact 18 rfl)
  g_less_by_one := He.glo_ok X G (c.fact 19 rfl)
  g_level_lots := He.glo_ok X G (c.fact 20 rfl)
  g_lots_of := He.glo_ok X G (c.fact 21 rfl)
  g_lots_sorted := He.glo_ok X G (c.fact 22 rfl)
  g_need_bar := He.glo_ok X G (c.fact 23 rfl)
  g_need_lot := He.glo_ok X G (c.fact 24 rfl)
  g_need_lot_of := He.glo_ok X G (c.fact 25 rfl)
  g_need_ring := He.glo_ok X G (c.fact 26 rfl)
  g_short_lots := He.glo_ok X G (c.fact 27 rfl)
  g_sort_in := He.glo_ok X G (c.fact 28 rfl)
  g_sums_of := He.glo_ok X G (c.fact 29 rfl)
  b_abs := He.free_ok X G (c.fact 30 rfl)
  b_all := He.free_ok X G (c.fact 31 rfl)
  b_any := He.free_ok X G (c.fact 32 rfl)
  b_bool := He.free_ok X G (c.fact 33 rfl)
  b_enumerate := He.free_ok X G (c.fact 34 rfl)
  b_int := He.free_ok X G (c.fact 35 rfl)
  b_isinstance := He.free_ok X G (c.fact 36 rfl)
  b_len := He.free_ok X G (c.fact 37 rfl)
  b_list := He.free_ok X G (c.fact 38 rfl)
  b_max := He.free_ok X G (c.fact 39 rfl)
  b_range := He.free_ok X G (c.fact 40 rfl)
  b_sorted := He.free_ok X G (c.fact 41 rfl)
  b_sum := He.free_ok X G (c.fact 42 rfl)
  b_tuple := He.free_ok X G (c.fact 43 rfl)
  i_LEAST_BARS := He.int_ok X G (c.fact 44 rfl)
  i_MOST_BARS := He.int_ok X G (c.fact 45 rfl)
  i_MOST_LENGTH := He.int_ok X G (c.fact 46 rfl)
  c_Ring := He.cls_ok (c.fact 47 rfl)
  n_Ring_closes := He.noat_ok (c.fact 48 rfl)
  n_Ring_is_clear := He.noat_ok (c.fact 49 rfl)
  n_Ring_lengths := He.noat_ok (c.fact 50 rfl)
  n_Ring_total := He.noat_ok (c.fact 51 rfl)
  m_Ring_as_one := He.meth_ok (c.fact 52 rfl)
  m_Ring_backwards := He.meth_ok (c.fact 53 rfl)
  m_Ring_begun_at := He.meth_ok (c.fact 54 rfl)
  m_Ring_in_order := He.meth_ok (c.fact 55 rfl)
  m_Ring_in_two := He.meth_ok (c.fact 56 rfl)
  m_Ring_length_of := He.meth_ok (c.fact 57 rfl)
  m_Ring_sort_of := He.meth_ok (c.fact 58 rfl)
  mk_Ring := He.mkr_ok (c.fact 59 rfl)
  is_Ring := isB_ok (He.cls_ok (c.fact 47 rfl)) e
theorem facts {P : Program} {w : World} {K : PySem.W.Frag} {h : Heap} {mg : Str → Option Value} {f : Addr} (X : K.In h) (G : h.Ns mainGlobals mg) (hfa : mg ("law" : Str) = some (.ref f)) (c : He.SaysD fa fn K) (e : ex K = true) :
    ∃ fd : FuncData, (∀ (s : Shared) (v : Value), BindsTo s fd ⟨[v], []⟩ [("_law_script", v)]) ∧ ∀ base : Heap, K.In base → base.Ns mainGlobals mg → FnOk P w K mg base (L2.CX P w) 8 f fd ["_law_script"] (spP K J1 (sp_law K)) := by
  have T := tx X G c e
  obtain ⟨fd0, F0⟩ := c.def_ 0 (d := d_is_integer) rfl
  obtain ⟨fd1, F1⟩ := c.def_ 1 (d := d_is_within) rfl
  obtain ⟨fd2, F2⟩ := c.def_ 2 (d := d_are_lengths) rfl
  obtain ⟨fd3, F3⟩ := c.def_ 3 (d := d_sums_of) rfl
  obtain ⟨fd4, F4⟩ := c.def_ 4 (d := d_Ring_init) rfl
  obtain ⟨fd5, F5⟩ := c.def_ 5 (d := d_Ring_backwards) rfl
  obtain ⟨fd6, F6⟩ := c.def_ 6 (d := d_need_bar) rfl
  obtain ⟨fd7, F7⟩ := c.def_ 7 (d := d_Ring_begun_at) rfl
  obtain ⟨fd8, F8⟩ := c.def_ 8 (d := d_is_numbers) rfl
  obtain ⟨fd9, F9⟩ := c.def_ 9 (d := d_Ring_in_order) rfl
  obtain ⟨fd10, F10⟩ := c.def_ 10 (d := d__law_draw) rfl
  obtain ⟨fd11, F11⟩ := c.def_ 11 (d := d__law_lots_anew) rfl
  obtain ⟨fd12, F12⟩ := c.def_ 12 (d := d__law_mixed) rfl
  obtain ⟨fd13, F13⟩ := c.def_ 13 (d := d_lots_of) rfl
  obtain ⟨fd14, F14⟩ := c.def_ 14 (d := d_sort_in) rfl
  obtain ⟨fd15, F15⟩ := c.def_ 15 (d := d_lots_sorted) rfl
  obtain ⟨fd16, F16⟩ := c.def_ 16 (d := d_need_ring) rfl
  obtain ⟨fd17, F17⟩ := c.def_ 17 (d := d_greatest_short) rfl
  obtain ⟨fd18, F18⟩ := c.def_ 18 (d := d_less_by_one) rfl
  obtain ⟨fd19, F19⟩ := c.def_ 19 (d := d_least_long) rfl
  obtain ⟨fd20, F20⟩ := c.def_ 20 (d := d_level_lots) rfl
  obtain ⟨fd21, F21⟩ := c.def_ 21 (d := d_short_lots) rfl
  obtain ⟨fd22, F22⟩ := c.def_ 22 (d := d__law_anew_right) rfl
  obtain ⟨fd23, F23⟩ := c.def_ 23 (d := d__law_lengths) rfl
  obtain ⟨fd24, F24⟩ := c.def_ 24 (d := d__law_pen) rfl
  obtain ⟨fd25, F25⟩ := c.def_ 25 (d := d_Ring_as_one) rfl
  obtain ⟨fd26, F26⟩ := c.def_ 26 (d := d_first_twice) rfl
  obtain ⟨fd27, F27⟩ := c.def_ 27 (d := d_need_lot_of) rfl
  obtain ⟨fd28, F28⟩ := c.def_ 28 (d := d_need_lot) rfl
  obtain ⟨fd29, F29⟩ := c.def_ 29 (d := d_Ring_length_of) rfl
  obtain ⟨fd30, F30⟩ := c.def_ 30 (d := d_Ring_sort_of) rfl
  obtain ⟨fd31, F31⟩ := c.def_ 31 (d := d__law_lots) rfl
  obtain ⟨fd32, F32⟩ := c.def_ 32 (d := d__law_sort) rfl
  obtain ⟨fd33, F33⟩ := c.def_ 33 (d := d__law_together_right) rfl
  obtain ⟨fd34, F34⟩ := c.def_ 34 (d := d_Ring_in_two) rfl
  obtain ⟨fd35, F35⟩ := c.def_ 35 (d := d__law_pick) rfl
  obtain ⟨fd36, F36⟩ := c.def_ 36 (d := d__law_two_right) rfl
  obtain ⟨fd37, F37⟩ := c.def_ 37 (d := d_law) rfl
  have e := hfa.symm.trans (He.glo_ok X G (c.fact 60 (f := .glo "law") rfl))
  cases e
  have b := FunD.bindsA (ps := ["_law_script"]) F37 fun _ _ _ _ _ _ us hl => match us, hl with | [_], _ => rfl
  refine ⟨fd37, fun s v => b s [v] rfl, fun base _ _ => ?_⟩
  have o_is_integer : HP P w K mg base 1 (He.ga K "is_integer") ["value"] (spP K J1 (sp_is_integer K)) := ⟨fd0, ok_is_integer T (He5.fun_of F0), F0.bindsN fun _ _ _ _ _ _ us hl => match us, hl with | [_], _ => rfl, F0.kp⟩
  have o_is_within : HP P w K mg base 2 (He.ga K "is_within") ["value", "least", "most"] (spP K J1 (sp_is_within K)) := ⟨fd1, ok_is_within T o_is_integer (He5.fun_of F1), F1.bindsN fun _ _ _ _ _ _ us hl => match us, hl with | [_, _, _], _ => rfl, F1.kp⟩
  have o_are_lengths : HP P w K mg base 3 (He.ga K "are_lengths") ["value"] (spP K J1 (sp_are_lengths K)) := ⟨fd2, ok_are_lengths T o_is_within (He5.fun_of F2), F2.bindsN fun _ _ _ _ _ _ us hl => match us, hl with | [_], _ => rfl, F2.kp⟩
  have o_sums_of : HP P w K mg base 1 (He.ga K "sums_of") ["lengths"] (spP K J1 (sp_sums_of K)) := ⟨fd3, ok_sums_of T (He5.fun_of F3), F3.bindsN fun _ _ _ _ _ _ us hl => match us, hl with | [_], _ => rfl, F3.kp⟩
  have o_Ring_init : HP P w K mg base 4 (He.ma K (He.ga K "Ring") "__init__") ["self", "lengths"] (spO K J1 (sp_Ring_init K)) := ⟨fd4, ok_Ring_init T o_are_lengths o_sums_of (He5.fun_of F4), F4.bindsN fun _ _ _ _ _ _ us hl => match us, hl with | [_, _], _ => rfl, F4.kp⟩
  have o_Ring_backwards : HP P w K mg base 6 (He.ma K (He.ga K "Ring") "backwards") ["self"] (spP K J1 (sp_Ring_backwards K)) := ⟨fd5, ok_Ring_backwards T o_Ring_init (He5.fun_of F5), F5.bindsN fun _ _ _ _ _ _ us hl => match us, hl with | [_], _ => rfl, F5.kp⟩
  have o_need_bar : HP P w K mg base 3 (He.ga K "need_bar") ["ring", "value"] (spP K J1 (sp_need_bar K)) := ⟨fd6, ok_need_bar T o_is_within (He5.fun_of F6), F6.bindsN fun _ _ _ _ _ _ us hl => match us, hl with | [_, _], _ => rfl, F6.kp⟩
  have o_Ring_begun_at : HP P w K mg base 6 (He.ma K (He.ga K "Ring") "begun_at") ["self", "bar"] (spP K J1 (sp_Ring_begun_at K)) := ⟨fd7, ok_Ring_begun_at T o_Ring_init o_need_bar (He5.fun_of F7), F7.bindsN fun _ _ _ _ _ _ us hl => match us, hl with | [_, _], _ => rfl, F7.kp⟩
  have o_is_numbers : HP P w K mg base 2 (He.ga K "is_numbers") ["value"] (spP K J1 (sp_is_numbers K)) := ⟨fd8, ok_is_numbers T o_is_integer (He5.fun_of F8), F8.bindsN fun _ _ _ _ _ _ us hl => match us, hl with | [_], _ => rfl, F8.kp⟩
  have o_Ring_in_order : HP P w K mg base 6 (He.ma K (He.ga K "Ring") "in_order") ["self", "order"] (spP K J1 (sp_Ring_in_order K)) := ⟨fd9, ok_Ring_in_order T o_Ring_init o_is_numbers (He5.fun_of F9), F9.bindsN fun _ _ _ _ _ _ us hl => match us, hl with | [_, _], _ => rfl, F9.kp⟩
  have o__law_draw : HP P w K mg base 1 (He.ga K "_law_draw") ["_law_pen_here", "_law_many"] (spO K J1 (sp__law_draw K)) := ⟨fd10, ok__law_draw T (He5.fun_of F10), F10.bindsN fun _ _ _ _ _ _ us hl => match us, hl with | [_, _], _ => rfl, F10.kp⟩
  have o__law_lots_anew : HP P w K mg base 1 (He.ga K "_law_lots_anew") ["_law_lots_here", "_law_order"] (spP K J1 (sp__law_lots_anew K)) := ⟨fd11, ok__law_lots_anew T (He5.fun_of F11), F11.bindsN fun _ _ _ _ _ _ us hl => match us, hl with | [_, _], _ => rfl, F11.kp⟩
  have o__law_mixed : HP P w K mg base 2 (He.ga K "_law_mixed") ["_law_pen_here", "_law_items"] (spO K J1 (sp__law_mixed K)) := ⟨fd12, ok__law_mixed T o__law_draw (He5.fun_of F12), F12.bindsN fun _ _ _ _ _ _ us hl => match us, hl with | [_, _], _ => rfl, F12.kp⟩
  have o_lots_of : HP P w K mg base 1 (He.ga K "lots_of") ["many"] (spP K J1 (sp_lots_of K)) := ⟨fd13, ok_lots_of T (He5.fun_of F13), F13.bindsN fun _ _ _ _ _ _ us hl => match us, hl with | [_], _ => rfl, F13.kp⟩
  have o_sort_in : HP P w K mg base 1 (He.ga K "sort_in") ["ring", "lot"] (spP K J1 (sp_sort_in K)) := ⟨fd14, ok_sort_in T (He5.fun_of F14), F14.bindsN fun _ _ _ _ _ _ us hl => match us, hl with | [_, _], _ => rfl, F14.kp⟩
  have o_lots_sorted : HP P w K mg base 2 (He.ga K "lots_sorted") ["ring", "sort"] (spP K J1 (sp_lots_sorted K)) := ⟨fd15, ok_lots_sorted T o_lots_of o_sort_in (He5.fun_of F15), F15.bindsN fun _ _ _ _ _ _ us hl => match us, hl with | [_, _], _ => rfl, F15.kp⟩
  have o_need_ring : HP P w K mg base 1 (He.ga K "need_ring") ["value", "part"] (spP K J1 (sp_need_ring K)) := ⟨fd16, ok_need_ring T (He5.fun_of F16), F16.bindsN fun _ _ _ _ _ _ us hl => match us, hl with | [_, _], _ => rfl, F16.kp⟩
  have o_greatest_short : HP P w K mg base 3 (He.ga K "greatest_short") ["ring"] (spP K J1 (sp_greatest_short K)) := ⟨fd17, ok_greatest_short T o_sort_in o_lots_sorted o_need_ring (He5.fun_of F17), F17.bindsN fun _ _ _ _ _ _ us hl => match us, hl with | [_], _ => rfl, F17.kp⟩
  have o_less_by_one : HP P w K mg base 1 (He.ga K "less_by_one") ["lot"] (spP K J1 (sp_less_by_one K)) := ⟨fd18, ok_less_by_one T (He5.fun_of F18), F18.bindsN fun _ _ _ _ _ _ us hl => match us, hl with | [_], _ => rfl, F18.kp⟩
  have o_least_long : HP P w K mg base 3 (He.ga K "least_long") ["ring"] (spP K J1 (sp_least_long K)) := ⟨fd19, ok_least_long T o_sort_in o_lots_sorted o_need_ring o_less_by_one (He5.fun_of F19), F19.bindsN fun _ _ _ _ _ _ us hl => match us, hl with | [_], _ => rfl, F19.kp⟩
  have o_level_lots : HP P w K mg base 3 (He.ga K "level_lots") ["ring"] (spP K J1 (sp_level_lots K)) := ⟨fd20, ok_level_lots T o_lots_sorted o_need_ring (He5.fun_of F20), F20.bindsN fun _ _ _ _ _ _ us hl => match us, hl with | [_], _ => rfl, F20.kp⟩
  have o_short_lots : HP P w K mg base 3 (He.ga K "short_lots") ["ring"] (spP K J1 (sp_short_lots K)) := ⟨fd21, ok_short_lots T o_lots_sorted o_need_ring (He5.fun_of F21), F21.bindsN fun _ _ _ _ _ _ us hl => match us, hl with | [_], _ => rfl, F21.kp⟩
  have o__law_anew_right : HP P w K mg base 7 (He.ga K "_law_anew_right") ["_law_pen_here", "_law_lengths_here"] (spO K J1 (sp__law_anew_right K)) := ⟨fd22, ok__law_anew_right T o_Ring_init o_Ring_backwards o_Ring_begun_at o_Ring_in_order o__law_draw o__law_lots_anew o__law_mixed o_greatest_short o_least_long o_level_lots o_short_lots (He5.fun_of F22), F22.bindsN fun _ _ _ _ _ _ us hl => match us, hl with | [_, _], _ => rfl, F22.kp⟩
  have o__law_lengths : HP P w K mg base 2 (He.ga K "_law_lengths") ["_law_pen_here"] (spO K J1 (sp__law_lengths K)) := ⟨fd23, ok__law_lengths T o__law_draw (He5.fun_of F23), F23.bindsN fun _ _ _ _ _ _ us hl => match us, hl with | [_], _ => rfl, F23.kp⟩
  have o__law_pen : HP P w K mg base 1 (He.ga K "_law_pen") ["_law_script"] (spF K J1 (sp__law_pen K)) := ⟨fd24, ok__law_pen T (He5.fun_of F24), F24.bindsN fun _ _ _ _ _ _ us hl => match us, hl with | [_], _ => rfl, F24.kp⟩
  have o_Ring_as_one : HP P w K mg base 6 (He.ma K (He.ga K "Ring") "as_one") ["self", "bar"] (spP K J1 (sp_Ring_as_one K)) := ⟨fd25, ok_Ring_as_one T o_Ring_init o_need_bar (He5.fun_of F25), F25.bindsN fun _ _ _ _ _ _ us hl => match us, hl with | [_, _], _ => rfl, F25.kp⟩
  have o_first_twice : HP P w K mg base 1 (He.ga K "first_twice") ["values"] (spP K J1 (sp_first_twice K)) := ⟨fd26, ok_first_twice T (He5.fun_of F26), F26.bindsN fun _ _ _ _ _ _ us hl => match us, hl with | [_], _ => rfl, F26.kp⟩
  have o_need_lot_of : HP P w K mg base 3 (He.ga K "need_lot_of") ["many", "value", "part"] (spP K J1 (sp_need_lot_of K)) := ⟨fd27, ok_need_lot_of T o_is_within o_is_numbers o_first_twice (He5.fun_of F27), F27.bindsN fun _ _ _ _ _ _ us hl => match us, hl with | [_, _, _], _ => rfl, F27.kp⟩
  have o_need_lot : HP P w K mg base 4 (He.ga K "need_lot") ["ring", "value", "part"] (spP K J1 (sp_need_lot K)) := ⟨fd28, ok_need_lot T o_need_lot_of (He5.fun_of F28), F28.bindsN fun _ _ _ _ _ _ us hl => match us, hl with | [_, _, _], _ => rfl, F28.kp⟩
  have o_Ring_length_of : HP P w K mg base 5 (He.ma K (He.ga K "Ring") "length_of") ["self", "lot"] (spP K J1 (sp_Ring_length_of K)) := ⟨fd29, ok_Ring_length_of T o_need_lot (He5.fun_of F29), F29.bindsN fun _ _ _ _ _ _ us hl => match us, hl with | [_, _], _ => rfl, F29.kp⟩
  have o_Ring_sort_of : HP P w K mg base 5 (He.ma K (He.ga K "Ring") "sort_of") ["self", "lot"] (spP K J1 (sp_Ring_sort_of K)) := ⟨fd30, ok_Ring_sort_of T o_sort_in o_need_lot (He5.fun_of F30), F30.bindsN fun _ _ _ _ _ _ us hl => match us, hl with | [_, _], _ => rfl, F30.kp⟩
  have o__law_lots : HP P w K mg base 1 (He.ga K "_law_lots") ["_law_many"] (spP K J1 (sp__law_lots K)) := ⟨fd31, ok__law_lots T (He5.fun_of F31), F31.bindsN fun _ _ _ _ _ _ us hl => match us, hl with | [_], _ => rfl, F31.kp⟩
  have o__law_sort : HP P w K mg base 1 (He.ga K "_law_sort") ["_law_lengths_here", "_law_lot"] (spP K J1 (sp__law_sort K)) := ⟨fd32, ok__law_sort T (He5.fun_of F32), F32.bindsN fun _ _ _ _ _ _ us hl => match us, hl with | [_, _], _ => rfl, F32.kp⟩
  have o__law_together_right : HP P w K mg base 7 (He.ga K "_law_together_right") ["_law_pen_here", "_law_lengths_here"] (spO K J1 (sp__law_together_right K)) := ⟨fd33, ok__law_together_right T o_Ring_init o__law_draw o_Ring_as_one o_Ring_length_of o_Ring_sort_of o__law_lots o__law_sort (He5.fun_of F33), F33.bindsN fun _ _ _ _ _ _ us hl => match us, hl with | [_, _], _ => rfl, F33.kp⟩
  have o_Ring_in_two : HP P w K mg base 6 (He.ma K (He.ga K "Ring") "in_two") ["self", "bar", "length"] (spP K J1 (sp_Ring_in_two K)) := ⟨fd34, ok_Ring_in_two T o_is_within o_Ring_init o_need_bar (He5.fun_of F34), F34.bindsN fun _ _ _ _ _ _ us hl => match us, hl with | [_, _, _], _ => rfl, F34.kp⟩
  have o__law_pick : HP P w K mg base 2 (He.ga K "_law_pick") ["_law_pen_here", "_law_some"] (spO K J1 (sp__law_pick K)) := ⟨fd35, ok__law_pick T o__law_draw (He5.fun_of F35), F35.bindsN fun _ _ _ _ _ _ us hl => match us, hl with | [_, _], _ => rfl, F35.kp⟩
  have o__law_two_right : HP P w K mg base 7 (He.ga K "_law_two_right") ["_law_pen_here", "_law_lengths_here"] (spO K J1 (sp__law_two_right K)) := ⟨fd36, ok__law_two_right T o_Ring_init o__law_draw o_Ring_length_of o_Ring_sort_of o__law_lots o_Ring_in_two o__law_pick (He5.fun_of F36), F36.bindsN fun _ _ _ _ _ _ us hl => match us, hl with | [_, _], _ => rfl, F36.kp⟩
  exact ok_law T o__law_anew_right o__law_lengths o__law_pen o__law_together_right o__law_two_right (He5.fun_of F37)
end KT
open PySem PySem.W PySem.Calls PyProof.Rows
theorem PySem.Challenge.cw_ringbars_k10_bars_put_together_holds : PySem.Challenge.rw_ringbars_k10_bars_put_together.Holds := by
  w_on; o_law
  refine HandSHeadRun.head_any (r := OpenLaw.row PySem.Challenge.rw_ringbars_k10_bars_put_together) (q := view (OpenLaw.row PySem.Challenge.rw_ringbars_k10_bars_put_together).prog [53]) (H := KT.hk) (ob := KT.ob) (M := 6000) (loose := KT.loose) (d := HandSHeadRun.topDef (OpenLaw.row PySem.Challenge.rw_ringbars_k10_bars_put_together).prog 53) (kwd := []) KT.ob_eq
    (by kernel_rfl) (fun s => by kernel_rfl) KT.run (by kernel_rfl) (by kernel_rfl) (by kernel_rfl) (by rfl) (by first | assumption | decide +kernel) (by decide +kernel) ⟨rfl, rfl, rfl, rfl, rfl, by decide +kernel⟩ ?hw ?hc
  case hw => w_witness2
  case hc =>
    refine DV.walk_ofW (l := PySem.Challenge.rw_ringbars_k10_bars_put_together) (n := 63) (k := 8) (x := "_law_script") rfl (by decide) (by kernel_rfl) ⟨rfl, by decide, by decide⟩ ?F
    intro w mg fa h Y G hmg0
    obtain ⟨K, KX, c, e⟩ := Y
    have hmg : mg ("law" : PySem.Str) = some (.ref fa) := by
      have e : (HandSHeadRun.topDef (OpenLaw.row PySem.Challenge.rw_ringbars_k10_bars_put_together).prog 53).name = ("law" : PySem.Str) := by kernel_rfl
      rw [← e]
      exact hmg0
    obtain ⟨fd, hb, hF⟩ := KT.facts (P := (PySem.Challenge.rw_ringbars_k10_bars_put_together).prog) (w := w) KX G hmg c e
    exact ⟨K, fd, KT.sp_law K, KX, hb, fun ns hl hbits => KT.law_in K ns hl hbits, hF⟩
