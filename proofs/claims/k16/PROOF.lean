import PyProof.Rows.All
import Wide.All
import OpenK.AllK
import Wide.FinOn
import HandS.ForMost
import HandS.IsInst
import HandS.Walk
import HandS.Conv
import HandS.FStr
import HandS.Defaults
import HandS.Head0
import HandS.Head1
import HandS.Head2
import HandS.HeadEnd
import HandS.HeadHook1
import HandS.HeadHook2
import HandS.HeadHook3
import HandS.HeadHook4
import PySem.Challenge.RW_faruplink_k16_written_and_read
set_option Elab.async false
set_option linter.all false
set_option maxRecDepth 100000
set_option maxHeartbeats 2000000
/-! FL: a calculus over plain data. A state is: the slots' data (G), and the mutable cells (M). What is immutable has no address here. -/
namespace FL
open PySem PySem.Spec PyProof.Rows L2

/-- plain data -/
inductive D where
  | non | bl (b : Bool) | int (i : Int) | str (x : Str) | ref (a : Addr) | ty (n : String)
  | tup (ds : List D) | lst (ds : List D)
  | dK (kvs : List (Key × D)) | dT (kvs : List (List Key × D))

mutual
/-- in the heap of what stays, F, the value is that data -/
inductive Rp (K : PySem.W.Frag) (F : Hp) : V → D → Prop
  | non : Rp K F .non .non
  | bl (b : Bool) : Rp K F (.bl b) (.bl b)
  | int (i : Int) : Rp K F (.int i) (.int i)
  | str (x : Str) : Rp K F (.str x) (.str x)
  | ref (a : Addr) : Rp K F (.ref a) (.ref a)
  | ty (n : String) : Rp K F (.ty n) (.ty n)
  | tup {a : Addr} {xs : List V} {ds : List D} : SqT K F a xs → RpAll K F xs ds → Rp K F (.ref a) (.tup ds)
  | lst {a : Addr} {xs : List V} {ds : List D} : SqL K F a xs → RpAll K F xs ds → Rp K F (.ref a) (.lst ds)
  | dK {a : Addr} {kvs : List (Key × V)} {kds : List (Key × D)} : F a = some (.dK kvs) → RpKey K F kvs kds → Rp K F (.ref a) (.dK kds)
  | dT {a : Addr} {kvs : List (List Key × V)} {kds : List (List Key × D)} : F a = some (.dT kvs) → RpTup K F kvs kds → Rp K F (.ref a) (.dT kds)
inductive RpAll (K : PySem.W.Frag) (F : Hp) : List V → List D → Prop
  | nil : RpAll K F [] []
  | cons {v : V} {vs : List V} {d : D} {ds : List D} : Rp K F v d → RpAll K F vs ds → RpAll K F (v :: vs) (d :: ds)
inductive RpKey (K : PySem.W.Frag) (F : Hp) : List (Key × V) → List (Key × D) → Prop
  | nil : RpKey K F [] []
  | cons {k : Key} {v : V} {vs : List (Key × V)} {d : D} {ds : List (Key × D)} : Rp K F v d → RpKey K F vs ds → RpKey K F ((k, v) :: vs) ((k, d) :: ds)
inductive RpTup (K : PySem.W.Frag) (F : Hp) : List (List Key × V) → List (List Key × D) → Prop
  | nil : RpTup K F [] []
  | cons {k : List Key} {v : V} {vs : List (List Key × V)} {d : D} {ds : List (List Key × D)} : Rp K F v d → RpTup K F vs ds → RpTup K F ((k, v) :: vs) ((k, d) :: ds)
end

theorem sq_same {K : PySem.W.Frag} {F F' : Hp} {a : Addr} {xs : List V} (e : Same F F') (h : SqT K F a xs) : SqT K F' a xs := by
  rcases h with (h | ⟨o, h⟩) | h
  · exact .inl (.inl (e _ _ h))
  · exact .inl (.inr ⟨o, e _ _ h⟩)
  · exact .inr h

mutual
theorem Rp.mono {K : PySem.W.Frag} {F F' : Hp} (e : Same F F') : ∀ {v : V} {d : D}, Rp K F v d → Rp K F' v d
  | _, _, .non => .non
  | _, _, .bl b => .bl b
  | _, _, .int i => .int i
  | _, _, .str x => .str x
  | _, _, .ref a => .ref a
  | _, _, .ty n => .ty n
  | _, _, .tup h r => .tup (sq_same e h) (RpAll.mono e r)
  | _, _, .lst h r => .lst (e.seq h) (RpAll.mono e r)
  | _, _, .dK h r => .dK (e _ _ h) (RpKey.mono e r)
  | _, _, .dT h r => .dT (e _ _ h) (RpTup.mono e r)
theorem RpAll.mono {K : PySem.W.Frag} {F F' : Hp} (e : Same F F') : ∀ {vs : List V} {ds : List D}, RpAll K F vs ds → RpAll K F' vs ds
  | _, _, .nil => .nil
  | _, _, .cons h r => .cons (Rp.mono e h) (RpAll.mono e r)
theorem RpKey.mono {K : PySem.W.Frag} {F F' : Hp} (e : Same F F') : ∀ {vs : List (Key × V)} {ds : List (Key × D)}, RpKey K F vs ds → RpKey K F' vs ds
  | _, _, .nil => .nil
  | _, _, .cons h r => .cons (Rp.mono e h) (RpKey.mono e r)
theorem RpTup.mono {K : PySem.W.Frag} {F F' : Hp} (e : Same F F') : ∀ {vs : List (List Key × V)} {ds : List (List Key × D)}, RpTup K F vs ds → RpTup K F' vs ds
  | _, _, .nil => .nil
  | _, _, .cons h r => .cons (Rp.mono e h) (RpTup.mono e r)
end

section
variable {K : PySem.W.Frag} {F : Hp}
theorem RpAll.length : ∀ {vs : List V} {ds : List D}, RpAll K F vs ds → vs.length = ds.length
  | _, _, .nil => rfl
  | _, _, .cons _ r => by rw [List.length_cons, List.length_cons, RpAll.length r]
theorem RpAll.get : ∀ {vs : List V} {ds : List D} {i : Nat} {d : D}, RpAll K F vs ds → ds[i]? = some d → ∃ v, vs[i]? = some v ∧ Rp K F v d
  | _, _, _, _, .nil, h => by simp at h
  | _, _, 0, _, .cons r _, h => by
    simp at h; subst h; exact ⟨_, rfl, r⟩
  | _, _, i + 1, d, .cons _ r, h => by
    obtain ⟨v, h1, h2⟩ := RpAll.get (i := i) (d := d) r (by simpa using h)
    exact ⟨v, by simpa using h1, h2⟩
theorem RpAll.getV : ∀ {vs : List V} {ds : List D} {i : Nat} {v : V}, RpAll K F vs ds → vs[i]? = some v → ∃ d, ds[i]? = some d ∧ Rp K F v d
  | _, _, _, _, .nil, h => by simp at h
  | _, _, 0, _, .cons r _, h => by
    simp at h; subst h; exact ⟨_, rfl, r⟩
  | _, _, i + 1, v, .cons _ r, h => by
    obtain ⟨d, h1, h2⟩ := RpAll.getV (i := i) (v := v) r (by simpa using h)
    exact ⟨d, by simpa using h1, h2⟩
theorem RpAll.append : ∀ {vs ws : List V} {ds es : List D}, RpAll K F vs ds → RpAll K F ws es → RpAll K F (vs ++ ws) (ds ++ es)
  | _, _, _, _, .nil, s => s
  | _, _, _, _, .cons h r, s => .cons h (RpAll.append r s)
theorem RpAll.set : ∀ {vs : List V} {ds : List D} (i : Nat) {v : V} {d : D}, RpAll K F vs ds → Rp K F v d → RpAll K F (vs.set i v) (ds.set i d)
  | _, _, _, _, _, .nil, _ => .nil
  | _, _, 0, _, _, .cons _ r, h => .cons h r
  | _, _, i + 1, _, _, .cons q r, h => .cons q (RpAll.set i r h)
theorem RpAll.take : ∀ {vs : List V} {ds : List D} (n : Nat), RpAll K F vs ds → RpAll K F (vs.take n) (ds.take n)
  | _, _, 0, _ => .nil
  | _, _, _ + 1, .nil => .nil
  | _, _, n + 1, .cons h r => .cons h (RpAll.take n r)
theorem RpAll.drop : ∀ {vs : List V} {ds : List D} (n : Nat), RpAll K F vs ds → RpAll K F (vs.drop n) (ds.drop n)
  | _, _, 0, r => r
  | _, _, _ + 1, .nil => .nil
  | _, _, n + 1, .cons _ r => RpAll.drop n r
theorem RpAll.eraseIdx : ∀ {vs : List V} {ds : List D} (n : Nat), RpAll K F vs ds → RpAll K F (vs.eraseIdx n) (ds.eraseIdx n)
  | _, _, _, .nil => .nil
  | _, _, 0, .cons _ r => r
  | _, _, n + 1, .cons h r => .cons h (RpAll.eraseIdx n r)
theorem RpAll.ints : ∀ {ns : List Int}, RpAll K F (ns.map V.int) (ns.map D.int)
  | [] => .nil
  | _ :: _ => .cons (.int _) RpAll.ints
theorem RpAll.strs : ∀ {ns : List Str}, RpAll K F (ns.map V.str) (ns.map D.str)
  | [] => .nil
  | _ :: _ => .cons (.str _) RpAll.strs
end

/-- what stands in a mutable cell -/
inductive MO where
  | lst (ds : List D) | ins (C : Addr) (fs : List (Str × D)) | dK (kvs : List (Key × D)) | dT (kvs : List (List Key × D))
abbrev Mem := Addr → Option MO
def mupd (M : Mem) (a : Addr) (o : MO) : Mem := fun b => if b = a then some o else M b
theorem mupd_same {M : Mem} {a : Addr} {o : MO} : mupd M a o a = some o := by unfold mupd; rw [if_pos rfl]
theorem mupd_ne {M : Mem} {a b : Addr} {o : MO} (h : b ≠ a) : mupd M a o b = M b := by unfold mupd; rw [if_neg h]
theorem mupd_mupd {M : Mem} {a : Addr} {o u : MO} : mupd (mupd M a o) a u = mupd M a u := by
  funext b; unfold mupd; split <;> rfl
/-- the cell is forgotten -/
def mdel (M : Mem) (a : Addr) : Mem := fun b => if b = a then none else M b
theorem mdel_mupd {M : Mem} {a : Addr} {o : MO} (h : M a = none) : mdel (mupd M a o) a = M := by
  funext b
  unfold mdel mupd
  by_cases e : b = a
  · subst e; rw [if_pos rfl, h]
  · rw [if_neg e, if_neg e]
theorem mne {M : Mem} {a b : Addr} {o : MO} (h : M a = some o) (h' : M b = none) : a ≠ b := by
  intro e; subst e; rw [h] at h'; cases h'
theorem mnes {M : Mem} {a b : Addr} {o : MO} (h : M a = some o) (h' : M b = none) : b ≠ a := fun e => mne h h' e.symm

/-- fields by name, in order -/
inductive FsRp (K : PySem.W.Frag) (F : Hp) : List (Str × V) → List (Str × D) → Prop
  | nil : FsRp K F [] []
  | cons {k : Str} {v : V} {vs : List (Str × V)} {d : D} {ds : List (Str × D)} : Rp K F v d → FsRp K F vs ds → FsRp K F ((k, v) :: vs) ((k, d) :: ds)
theorem FsRp.mono {K : PySem.W.Frag} {F F' : Hp} (e : Same F F') : ∀ {vs : List (Str × V)} {ds : List (Str × D)}, FsRp K F vs ds → FsRp K F' vs ds
  | _, _, .nil => .nil
  | _, _, .cons h r => .cons (h.mono e) (FsRp.mono e r)
def MRp (K : PySem.W.Frag) (F H : Hp) (a : Addr) : MO → Prop
  | .lst ds => ∃ xs, H a = some (.lst xs) ∧ RpAll K F xs ds
  | .ins C fs => ∃ dx vs, H a = some (.ins C dx vs) ∧ FsRp K F vs fs
  | .dK kvs => ∃ vs, H a = some (.dK vs) ∧ RpKey K F vs kvs
  | .dT kvs => ∃ vs, H a = some (.dT vs) ∧ RpTup K F vs kvs
def MemOk (K : PySem.W.Frag) (F H : Hp) (M : Mem) : Prop := ∀ a o, M a = some o → F a = none ∧ MRp K F H a o
def SlotsOk (K : PySem.W.Frag) (F : Hp) (s : L2.St) (G : List (Option D)) : Prop := G.length = s.length ∧ ∀ (i : Nat) (d : D), G[i]? = some (some d) → ∃ v, s[i]? = some (some v) ∧ Rp K F v d
/-- where a piece of code began: what stays, the cells, the heap -/
structure Bs where
  F : Hp
  M : Mem
  H : Hp
/-- what was no cell is as it was -/
def Kp (M : Mem) (H : Hp) (M' : Mem) (H' : Hp) : Prop := ∀ a u, H a = some u → M a = none → H' a = some u ∧ M' a = none
theorem Kp.refl (M : Mem) (H : Hp) : Kp M H M H := fun _ _ h m => ⟨h, m⟩
theorem Kp.trans {M M1 M2 : Mem} {H H1 H2 : Hp} (a : Kp M H M1 H1) (b : Kp M1 H1 M2 H2) : Kp M H M2 H2 := fun x u h m => b x u (a x u h m).1 (a x u h m).2
theorem Kp.heap {M : Mem} {H H' : Hp} (e : Same H H') : Kp M H M H' := fun a u h m => ⟨e a u h, m⟩
theorem Kp.less {M M' : Mem} {H : Hp} (h : ∀ a o, M' a = some o → M a = some o) : Kp M H M' H := fun a u e m => ⟨e, by
  cases q : M' a with
  | none => rfl
  | some o => rw [h a o q] at m; cases m⟩
structure R (B : Bs) (K : PySem.W.Frag) (F : Hp) (s : L2.St) (H : Hp) (G : List (Option D)) (M : Mem) : Prop where
  slots : SlotsOk K F s G
  ex : Same F H
  mem : MemOk K F H M
  bf : Same B.F F
  bk : Kp B.M B.H M H

section
variable {B : Bs} {K : PySem.W.Frag} {F F' H H' : Hp} {s : L2.St} {G : List (Option D)} {M M' : Mem}
theorem MRp.mono {a : Addr} (e : Same F F') : ∀ {o : MO}, MRp K F H a o → MRp K F' H a o
  | .lst _, ⟨xs, h, r⟩ => ⟨xs, h, r.mono e⟩
  | .ins _ _, ⟨dx, vs, h, r⟩ => ⟨dx, vs, h, r.mono e⟩
  | .dK _, ⟨xs, h, r⟩ => ⟨xs, h, r.mono e⟩
  | .dT _, ⟨xs, h, r⟩ => ⟨xs, h, r.mono e⟩
theorem MRp.there {a : Addr} : ∀ {o : MO}, MRp K F H a o → ∃ u, H a = some u ∧ ∀ xs, u ≠ .tup xs
  | .lst _, ⟨xs, h, r⟩ => ⟨_, h, fun _ e => nomatch e⟩
  | .ins _ _, ⟨dx, vs, h, r⟩ => ⟨_, h, fun _ e => nomatch e⟩
  | .dK _, ⟨xs, h, r⟩ => ⟨_, h, fun _ e => nomatch e⟩
  | .dT _, ⟨xs, h, r⟩ => ⟨_, h, fun _ e => nomatch e⟩
theorem MRp.heap {a : Addr} (e : ∀ u, H a = some u → H' a = some u) : ∀ {o : MO}, MRp K F H a o → MRp K F H' a o
  | .lst _, ⟨xs, h, r⟩ => ⟨xs, e _ h, r⟩
  | .ins _ _, ⟨dx, vs, h, r⟩ => ⟨dx, vs, e _ h, r⟩
  | .dK _, ⟨xs, h, r⟩ => ⟨xs, e _ h, r⟩
  | .dT _, ⟨xs, h, r⟩ => ⟨xs, e _ h, r⟩
theorem SlotsOk.mono (e : Same F F') (h : SlotsOk K F s G) : SlotsOk K F' s G := ⟨h.1, fun i d q => by
  obtain ⟨v, h1, h2⟩ := h.2 i d q
  exact ⟨v, h1, h2.mono e⟩⟩
theorem SlotsOk.set {i : Nat} {v : V} {d : D} (h : SlotsOk K F s G) (r : Rp K F v d) : SlotsOk K F (s.set i (some v)) (G.set i (some d)) := by
  refine ⟨by simpa using h.1, fun j e q => ?_⟩
  by_cases hj : i = j
  · subst hj
    by_cases hi : i < G.length
    · rw [List.getElem?_set_self hi] at q
      cases q
      exact ⟨v, by rw [List.getElem?_set_self (by rw [← h.1]; exact hi)], r⟩
    · rw [List.getElem?_eq_none (by simpa using hi)] at q
      cases q
  · rw [List.getElem?_set_ne hj] at q ⊢
    exact h.2 j e q
theorem SlotsOk.setNone {i : Nat} {u : Option V} (h : SlotsOk K F s G) : SlotsOk K F (s.set i u) (G.set i none) := by
  refine ⟨by simpa using h.1, fun j e q => ?_⟩
  by_cases hj : i = j
  · subst hj
    by_cases hi : i < G.length
    · rw [List.getElem?_set_self hi] at q
      cases q
    · rw [List.getElem?_eq_none (by simpa using hi)] at q
      cases q
  · rw [List.getElem?_set_ne hj] at q ⊢
    exact h.2 j e q
/-- a new thing of the heap, nothing known of it -/
theorem MemOk.heap (e : Same H H') (h : MemOk K F H M) : MemOk K F H' M := fun a o q => ⟨(h a o q).1, (h a o q).2.heap fun u => e a u⟩
theorem Same.upd_new {p : Addr} {o : HO} (h : H p = none) : Same H (upd H p o) := fun b u q => by rw [upd_ne (ne_of_none q h)]; exact q
theorem R.heap (e : Same H H') (r : R B K F s H G M) : R B K F s H' G M := ⟨r.slots, r.ex.trans e, r.mem.heap e, r.bf, r.bk.trans (Kp.heap e)⟩
theorem R.freeF {p : Addr} (r : R B K F s H G M) (h : H p = none) : F p = none := r.ex.free h
theorem R.freeM {p : Addr} (r : R B K F s H G M) (h : H p = none) : M p = none := by
  cases q : M p with
  | none => rfl
  | some o =>
    obtain ⟨u, hu, _⟩ := (r.mem p o q).2.there
    rw [h] at hu; cases hu
/-- F may know more of the heap: what is no cell of M -/
theorem R.grow (e : Same F F') (e2 : Same F' H) (hm : ∀ a o, M a = some o → F' a = none) (r : R B K F s H G M) : R B K F' s H G M :=
  ⟨r.slots.mono e, e2, fun a o q => ⟨hm a o q, (r.mem a o q).2.mono e⟩, r.bf.trans e, r.bk⟩
/-- a new frozen thing at p -/
theorem R.new {p : Addr} {o : HO} (r : R B K F s H G M) (h : H p = none) : Same F (upd F p o) ∧ R B K (upd F p o) s (upd H p o) G M := by
  have e : Same F (upd F p o) := Same.upd_new (r.freeF h)
  have hp : M p = none := r.freeM h
  refine ⟨e, ?_⟩
  refine R.grow e (fun b u q => ?_) (fun a u q => ?_) (r.heap (Same.upd_new h))
  · by_cases hb : b = p
    · subst hb; rw [upd_same] at q ⊢; exact q
    · rw [upd_ne hb] at q ⊢; exact r.ex b u q
  · rw [upd_ne (mne q hp)]; exact (r.mem a u q).1
/-- a new cell at p -/
theorem R.newCell {p : Addr} {ho : HO} {o : MO} (r : R B K F s H G M) (h : H p = none) (k : MRp K F (upd H p ho) p o) : R B K F s (upd H p ho) G (mupd M p o) := by
  refine ⟨r.slots, r.ex.trans (Same.upd_new h), fun a u q => ?_, r.bf, r.bk.trans fun a u e m => ⟨Same.upd_new h a u e, by rw [mupd_ne (ne_of_none e h)]; exact m⟩⟩
  by_cases ha : a = p
  · subst ha; rw [mupd_same] at q; cases q; exact ⟨r.freeF h, k⟩
  · rw [mupd_ne ha] at q
    exact ⟨(r.mem a u q).1, (r.mem a u q).2.heap fun v e => by rw [upd_ne ha]; exact e⟩
/-- a cell is written -/
theorem R.write {p : Addr} {ho : HO} {o o' : MO} (r : R B K F s H G M) (h : M p = some o) (k : MRp K F (upd H p ho) p o') : R B K F s (upd H p ho) G (mupd M p o') := by
  have fp := (r.mem p o h).1
  refine ⟨r.slots, fun b u q => ?_, fun a u q => ?_, r.bf, r.bk.trans fun a u e m => ⟨by rw [upd_ne (fun z => by rw [z, h] at m; cases m)]; exact e, by rw [mupd_ne (fun z => by rw [z, h] at m; cases m)]; exact m⟩⟩
  · rw [upd_ne (ne_of_none q fp)]; exact r.ex b u q
  by_cases ha : a = p
  · subst ha; rw [mupd_same] at q; cases q; exact ⟨fp, k⟩
  · rw [mupd_ne ha] at q
    exact ⟨(r.mem a u q).1, (r.mem a u q).2.heap fun v e => by rw [upd_ne ha]; exact e⟩
/-- less is known of the cells -/
theorem R.less (r : R B K F s H G M) (h : ∀ a o, M' a = some o → M a = some o) : R B K F s H G M' := ⟨r.slots, r.ex, fun a o q => r.mem a o (h a o q), r.bf, r.bk.trans (Kp.less h)⟩
/-- a list cell is frozen -/
theorem R.freeze {p : Addr} {ds : List D} (r : R B K F s H G M) (h : M p = some (.lst ds)) : ∃ F', Same F F' ∧ R B K F' s H G (mdel M p) ∧ Rp K F' (.ref p) (.lst ds) := by
  obtain ⟨fp, xs, hx, rx⟩ := r.mem p _ h
  have e : Same F (upd F p (.lst xs)) := Same.upd_new fp
  refine ⟨upd F p (.lst xs), e, ?_, .lst (.inl (.inl upd_same)) (rx.mono e)⟩
  have r2 : R B K F s H G (mdel M p) := r.less fun a o q => by
    unfold mdel at q
    split at q
    · cases q
    · exact q
  refine R.grow e (fun b u q => ?_) (fun a u q => ?_) r2
  · by_cases hb : b = p
    · subst hb; rw [upd_same] at q; cases q; exact hx
    · rw [upd_ne hb] at q; exact r.ex b u q
  · unfold mdel at q
    split at q
    · cases q
    · rename_i hb
      rw [upd_ne hb]; exact (r.mem a u q).1
end
end FL

namespace FL
open PySem PySem.Spec PyProof.Rows L2

abbrev Sl := List (Option D)
/-! ### the weakest readings -/
section
variable {B : Bs} {X : Cx} {e : Expr}
def WE (X : Cx) (e : Expr) : TE := fun σ H Q => ∀ (pins : List (Addr × Obj)) (s : Shared), Inv X pins σ H s → wpAny (model X.prog X.w) X.A (eval e X.env) (EP X pins σ Q) X.xe s
theorem pe_we : PE X e (WE X e) := ⟨fun pins s _ _ _ I h => h pins s I⟩
theorem WE.of {t : TE} {σ : L2.St} {H : Hp} {Q : VK} (h : PE X e t) (q : t σ H Q) : WE X e σ H Q := fun pins s I => h.run pins s σ H Q I q
def WT (X : Cx) (e : Expr) : TT := fun σ H Q => ∀ (pins : List (Addr × Obj)) (s : Shared), Inv X pins σ H s → wpAny (model X.prog X.w) X.A (isTrue e X.env (eval e X.env)) (TP X pins σ Q) X.xe s
theorem pt_wt : PT X e (WT X e) := ⟨fun pins s _ _ _ I h => h pins s I⟩
theorem WT.of {t : TT} {σ : L2.St} {H : Hp} {Q : Bool → Hp → Prop} (h : PT X e t) (q : t σ H Q) : WT X e σ H Q := fun pins s I => h.run pins s σ H Q I q
def WW (X : Cx) (e : Expr) : TT := fun σ H Q => ∀ (whole : Sem Value) (pins : List (Addr × Obj)) (s : Shared), Inv X pins σ H s → wpAny (model X.prog X.w) X.A (isTrue e X.env whole) (TP X pins σ Q) X.xe s
theorem pw_ww : PW X e (WW X e) := ⟨fun wh pins s _ _ _ I h => h wh pins s I⟩
theorem WW.of {t : TT} {σ : L2.St} {H : Hp} {Q : Bool → Hp → Prop} (h : PW X e t) (q : t σ H Q) : WW X e σ H Q := fun wh pins s I => h.run wh pins s σ H Q I q
def WA (X : Cx) (es : List Expr) : TA := fun σ H Q => ∀ (pos : Pos) (pins : List (Addr × Obj)) (s : Shared), Inv X pins σ H s → wpAny (model X.prog X.w) X.A (spliced (backTo pos (starEach es X.env))) (AP X pins σ Q) X.xe s
theorem pa_wa {es : List Expr} : PA X es (WA X es) := ⟨fun pos pins s _ _ _ I h => h pos pins s I⟩
theorem WA.of {es : List Expr} {t : TA} {σ : L2.St} {H : Hp} {Q : List V → Hp → Prop} (h : PA X es t) (q : t σ H Q) : WA X es σ H Q := fun pos pins s I => h.run pos pins s σ H Q I q
def WO (X : Cx) (f : Value → Value → Sem Value) : R2 := fun x y H Q => ∀ (pins : List (Addr × Obj)) (s : Shared) (σ : L2.St) (v u : Value), Inv X pins σ H s → RelV x v → RelV y u → wpAny (model X.prog X.w) X.A (f v u) (EP X pins σ Q) X.xe s
theorem op_wo {f : Value → Value → Sem Value} : OpR X f (WO X f) := fun pins s σ _ _ _ v u _ I r1 r2 h => h pins s σ v u I r1 r2
theorem WO.of {f : Value → Value → Sem Value} {r : R2} {x y : V} {H : Hp} {Q : VK} (h : OpR X f r) (q : r x y H Q) : WO X f x y H Q := fun pins s σ v u I r1 r2 => h pins s σ H x y v u Q I r1 r2 q
def WU (X : Cx) (f : Value → Sem Value) : V → Hp → VK → Prop := fun x H Q => ∀ (pins : List (Addr × Obj)) (s : Shared) (σ : L2.St) (v : Value), Inv X pins σ H s → RelV x v → wpAny (model X.prog X.w) X.A (f v) (EP X pins σ Q) X.xe s
theorem un_wu {f : Value → Sem Value} : UnR X f (WU X f) := fun pins s σ _ _ v _ I r1 h => h pins s σ v I r1
theorem WU.of {f : Value → Sem Value} {r : V → Hp → VK → Prop} {x : V} {H : Hp} {Q : VK} (h : UnR X f r) (q : r x H Q) : WU X f x H Q := fun pins s σ v I r1 => h pins s σ H x v Q I r1 q
def WC (X : Cx) (f : Value) : List V → Hp → VK → Prop := fun xs H Q => ∀ (pins : List (Addr × Obj)) (s : Shared) (σ : L2.St) (us : List Value), Inv X pins σ H s → Vals xs us → wpAny (model X.prog X.w) X.A (call f us) (EP X pins σ Q) X.xe s
theorem call_wc {f : Value} : CallR X f (WC X f) := fun pins s σ _ _ us _ I r h => h pins s σ us I r
theorem WC.of {f : Value} {r : List V → Hp → VK → Prop} {xs : List V} {H : Hp} {Q : VK} (h : CallR X f r) (q : r xs H Q) : WC X f xs H Q := fun pins s σ us I rr => h pins s σ H xs us Q I rr q
def WI (X : Cx) : R2 := fun x y H Q => ∀ (value slice : Expr) (pins : List (Addr × Obj)) (s : Shared) (σ : L2.St) (v u : Value), Inv X pins σ H s → RelV x v → RelV y u →
  subscripted slice false v u = operate [v, u] (getItem v u) → wpAny (model X.prog X.w) X.A (subscriptTail value slice v u) (EP X pins σ Q) X.xe s
theorem ix_wi : IxR X (WI X) := fun a b pins s σ _ _ _ v u _ I r1 r2 h hs => h a b pins s σ v u I r1 r2 hs
theorem WI.of {r : R2} {x y : V} {H : Hp} {Q : VK} (h : IxR X r) (q : r x y H Q) : WI X x y H Q := fun a b pins s σ v u I r1 r2 hs => h a b pins s σ H x y v u Q I r1 r2 q hs
def WM (X : Cx) (id : String) : V → List V → Hp → VK → Prop := fun x xs H Q => ∀ (pins : List (Addr × Obj)) (s : Shared) (σ : L2.St) (v : Value) (us : List Value), Inv X pins σ H s → RelV x v → Vals xs us →
  wpAny (model X.prog X.w) X.A (call (.builtin id) (v :: us)) (EP X pins σ Q) X.xe s
theorem mt_wm {id : String} : MtR X id (WM X id) := fun pins s σ _ _ _ v us _ I r1 r2 h => h pins s σ v us I r1 r2
theorem WM.of {id : String} {r : V → List V → Hp → VK → Prop} {x : V} {xs : List V} {H : Hp} {Q : VK} (h : MtR X id r) (q : r x xs H Q) : WM X id x xs H Q := fun pins s σ v us I r1 r2 => h pins s σ H x xs v us Q I r1 r2 q
def WS (X : Cx) (st : Stmt) : TS := fun D σ H => ∀ (pins : List (Addr × Obj)) (s : Shared), Inv X pins σ H s → wpAny (model X.prog X.w) X.A (exec st X.env) (SP X pins D) X.xe s
theorem ps_ws {st : Stmt} : PS X st (WS X st) := ⟨fun pins s _ _ _ I h => h pins s I⟩
theorem WS.of {st : Stmt} {t : TS} {σ : L2.St} {H : Hp} {E : Ends} (h : PS X st t) (q : t E σ H) : WS X st E σ H := fun pins s I => h.run pins s σ H E I q
def WSs (X : Cx) (st : List Stmt) : TS := fun D σ H => ∀ (pins : List (Addr × Obj)) (s : Shared), Inv X pins σ H s → wpAny (model X.prog X.w) X.A (execs st X.env) (SP X pins D) X.xe s
theorem pss_wss {st : List Stmt} : PSs X st (WSs X st) := ⟨fun pins s _ _ _ I h => h pins s I⟩
theorem WSs.of {st : List Stmt} {t : TS} {σ : L2.St} {H : Hp} {E : Ends} (h : PSs X st t) (q : t E σ H) : WSs X st E σ H := fun pins s I => h.run pins s σ H E I q
def WG (X : Cx) (tg : Expr) : TG := fun v σ H Q => ∀ (pins : List (Addr × Obj)) (s : Shared) (u : Value), Inv X pins σ H s → RelV v u →
  wpAny (model X.prog X.w) X.A (assign tg X.env u) (fun _ s' => ∃ σ' H', Inv X pins σ' H' s' ∧ Q σ' H') X.xe s
theorem pg_wg {tg : Expr} : PG X tg (WG X tg) := ⟨fun pins s _ _ _ u _ I r h => h pins s u I r⟩
theorem WG.of {tg : Expr} {t : TG} {v : V} {σ : L2.St} {H : Hp} {Q : L2.St → Hp → Prop} (h : PG X tg t) (q : t v σ H Q) : WG X tg v σ H Q := fun pins s u I r => h.run pins s σ H v u Q I r q
end

/-! ### what is handed on -/
def KE (B : Bs) (X : Cx) (F : Hp) (σ : L2.St) (G : Sl) (Q : D → Mem → Prop) (Q' : VK) : Prop := ∀ v H' F' d M', Q d M' → Same F F' → R B X.K F' σ H' G M' → Rp X.K F' v d → Q' v H'
def KT (B : Bs) (X : Cx) (F : Hp) (σ : L2.St) (G : Sl) (Q : Bool → Mem → Prop) (Q' : Bool → Hp → Prop) : Prop := ∀ b H' F' M', Q b M' → Same F F' → R B X.K F' σ H' G M' → Q' b H'
def KA (B : Bs) (X : Cx) (F : Hp) (σ : L2.St) (G : Sl) (Q : List D → Mem → Prop) (Q' : List V → Hp → Prop) : Prop := ∀ vs H' F' ds M', Q ds M' → Same F F' → R B X.K F' σ H' G M' → RpAll X.K F' vs ds → Q' vs H'
def EX (B : Bs) (X : Cx) (e : Expr) (G : Sl) (M : Mem) (Q : D → Mem → Prop) : Prop := ∀ F σ H Q', R B X.K F σ H G M → KE B X F σ G Q Q' → WE X e σ H Q'
def TX (B : Bs) (X : Cx) (e : Expr) (G : Sl) (M : Mem) (Q : Bool → Mem → Prop) : Prop := ∀ F σ H Q', R B X.K F σ H G M → KT B X F σ G Q Q' → WT X e σ H Q'
def TW (B : Bs) (X : Cx) (e : Expr) (G : Sl) (M : Mem) (Q : Bool → Mem → Prop) : Prop := ∀ F σ H Q', R B X.K F σ H G M → KT B X F σ G Q Q' → WW X e σ H Q'
def AX (B : Bs) (X : Cx) (es : List Expr) (G : Sl) (M : Mem) (Q : List D → Mem → Prop) : Prop := ∀ F σ H Q', R B X.K F σ H G M → KA B X F σ G Q Q' → WA X es σ H Q'
def OX (B : Bs) (X : Cx) (f : Value → Value → Sem Value) (x y : D) (G : Sl) (M : Mem) (Q : D → Mem → Prop) : Prop := ∀ F σ H Q' v w, R B X.K F σ H G M → Rp X.K F v x → Rp X.K F w y → KE B X F σ G Q Q' → WO X f v w H Q'
def UX (B : Bs) (X : Cx) (f : Value → Sem Value) (x : D) (G : Sl) (M : Mem) (Q : D → Mem → Prop) : Prop := ∀ F σ H Q' v, R B X.K F σ H G M → Rp X.K F v x → KE B X F σ G Q Q' → WU X f v H Q'
def IX (B : Bs) (X : Cx) (x y : D) (G : Sl) (M : Mem) (Q : D → Mem → Prop) : Prop := ∀ F σ H Q' v w, R B X.K F σ H G M → Rp X.K F v x → Rp X.K F w y → KE B X F σ G Q Q' → WI X v w H Q'
def BX (B : Bs) (X : Cx) (f : Value) (xs : List D) (G : Sl) (M : Mem) (Q : D → Mem → Prop) : Prop := ∀ F σ H Q' vs, R B X.K F σ H G M → RpAll X.K F vs xs → KE B X F σ G Q Q' → WC X f vs H Q'
def MX (B : Bs) (X : Cx) (id : String) (x : D) (xs : List D) (G : Sl) (M : Mem) (Q : D → Mem → Prop) : Prop := ∀ F σ H Q' v vs, R B X.K F σ H G M → Rp X.K F v x → RpAll X.K F vs xs → KE B X F σ G Q Q' → WM X id v vs H Q'

section
variable {B : Bs} {X : Cx} {a b c e : Expr} {es : List Expr} {G : Sl} {M : Mem} {Q Q2 : D → Mem → Prop} {pos p pos' : Pos} {d : D} {F F1 : Hp} {σ : L2.St}
theorem KE.mono {Q' : VK} (e : Same F F1) (k : KE B X F σ G Q Q') : KE B X F1 σ G Q Q' := fun v H' F' d M' q s r rp => k v H' F' d M' q (e.trans s) r rp
theorem KT.mono {Q : Bool → Mem → Prop} {Q' : Bool → Hp → Prop} (e : Same F F1) (k : KT B X F σ G Q Q') : KT B X F1 σ G Q Q' := fun b H' F' M' q s r => k b H' F' M' q (e.trans s) r
theorem KA.mono {Q : List D → Mem → Prop} {Q' : List V → Hp → Prop} (e : Same F F1) (k : KA B X F σ G Q Q') : KA B X F1 σ G Q Q' := fun vs H' F' ds M' q s r rp => k vs H' F' ds M' q (e.trans s) r rp
theorem EX.imp (h : EX B X e G M Q) (k : ∀ d M', Q d M' → Q2 d M') : EX B X e G M Q2 := fun F σ H Q' r kk => h F σ H Q' r fun v H' F' d M' q => kk v H' F' d M' (k d M' q)
theorem TX.imp {Q Q2 : Bool → Mem → Prop} (h : TX B X e G M Q) (k : ∀ b M', Q b M' → Q2 b M') : TX B X e G M Q2 := fun F σ H Q' r kk => h F σ H Q' r fun b H' F' M' q => kk b H' F' M' (k b M' q)
/-- done at once, the state as it is -/
theorem KE.at {Q' : VK} {H : Hp} {v : V} (k : KE B X F σ G Q Q') (r : R B X.K F σ H G M) (q : Q d M) (rp : Rp X.K F v d) : Q' v H := k v H F d M q (Same.refl F) r rp
/-- .. with a new frozen thing -/
theorem KE.new {Q' : VK} {H : Hp} {p : Addr} {o : HO} (k : KE B X F σ G Q Q') (r : R B X.K F σ H G M) (hp : H p = none) (q : Q d M) (rp : Rp X.K (upd F p o) (.ref p) d) : Q' (.ref p) (upd H p o) :=
  k (.ref p) _ (upd F p o) d M q (r.new hp).1 (r.new hp).2 rp
theorem KE.cell {Q' : VK} {H : Hp} {p : Addr} {ho : HO} {o : MO} (k : KE B X F σ G Q Q') (r : R B X.K F σ H G M) (hp : H p = none) (q : Q (.ref p) (mupd M p o)) (m : MRp X.K F (upd H p ho) p o) : Q' (.ref p) (upd H p ho) :=
  k (.ref p) _ F (.ref p) _ q (Same.refl F) (r.newCell hp m) (.ref p)

/-! ### names, constants -/
/-- the i-th slot's name -/
structure At (X : Cx) (i : Nat) (x : Str) : Prop where
  n : X.N[i]? = some x
  v : Vis X.env.scope x
  d : (x == ("__debug__" : Str)) = false
  c : (x == ("__classdict__" : Str)) = false
theorem ex_var {i : Nat} {x : Str} (h : At X i x) (g : G[i]? = some (some d)) (q : Q d M) : EX B X (.Name x pos) G M Q := fun F σ H Q' r k => by
  obtain ⟨v, hv, rp⟩ := r.slots.2 i d g
  exact WE.of (pe_var h.n h.v h.d h.c) ⟨v, hv, k.at r q rp⟩
theorem ex_int {i : Int} {j} (q : Q (.int i) M) : EX B X (.Constant (.int i) j pos) G M Q := fun F σ H Q' r k => WE.of pe_int (k.at r q (.int i))
theorem ex_bl {b : Bool} {j} (q : Q (.bl b) M) : EX B X (.Constant (.bool b) j pos) G M Q := fun F σ H Q' r k => WE.of pe_bl (k.at r q (.bl b))
theorem ex_non {j} (q : Q .non M) : EX B X (.Constant .none j pos) G M Q := fun F σ H Q' r k => WE.of pe_non (k.at r q .non)
theorem ex_str {x : Str} {j} (q : Q (.str x) M) : EX B X (.Constant (.str x) j pos) G M Q := fun F σ H Q' r k => WE.of pe_str (k.at r q (.str x))
/-- a name of the module -/
structure Gb (X : Cx) (x : Str) (d : D) : Prop where
  g : Gl X x
  m : ∃ u v, X.mg x = some u ∧ RelV v u ∧ ∀ F, Rp X.K F v d
  d : (x == ("__debug__" : Str)) = false
theorem ex_glob {x : Str} (h : Gb X x d) (q : Q d M) : EX B X (.Name x pos) G M Q := fun F σ H Q' r k => by
  obtain ⟨u, v, hm, rv, rp⟩ := h.m
  exact WE.of (pe_glob h.g hm rv h.d) (k.at r q (rp F))

/-! ### operators -/
theorem ex_bin {op : Operator} (h : EX B X a G M fun x M1 => EX B X b G M1 fun y M2 => OX B X (binaryOp op) x y G M2 Q) : EX B X (.BinOp a op b pos) G M Q := fun F σ H Q' r k =>
  WE.of (pe_op op_wo pe_we pe_we) (h F σ H _ r fun v1 H1 F1 d1 M1 q1 s1 r1 p1 => q1 F1 σ H1 _ r1 fun v2 H2 F2 d2 M2 q2 s2 r2 p2 => q2 F2 σ H2 Q' v1 v2 r2 (p1.mono s2) p2 (k.mono (s1.trans s2)))
theorem ex_un {op : UnaryOp} (h : EX B X a G M fun x M1 => UX B X (unaryOp op) x G M1 Q) : EX B X (.UnaryOp op a pos) G M Q := fun F σ H Q' r k =>
  WE.of (pe_un un_wu pe_we) (h F σ H _ r fun v1 H1 F1 d1 M1 q1 s1 r1 p1 => q1 F1 σ H1 Q' v1 r1 p1 (k.mono s1))
theorem ex_cmp {op : CmpOp} (hm : behindInMarks op b = false) (h : EX B X a G M fun x M1 => EX B X b G M1 fun y M2 => OX B X (compareOp op) x y G M2 Q) : EX B X (.Compare a [op] [b] pos) G M Q := fun F σ H Q' r k =>
  WE.of (pe_cmpR op_wo pe_we pe_we hm) (h F σ H _ r fun v1 H1 F1 d1 M1 q1 s1 r1 p1 => q1 F1 σ H1 _ r1 fun v2 H2 F2 d2 M2 q2 s2 r2 p2 => q2 F2 σ H2 Q' v1 v2 r2 (p1.mono s2) p2 (k.mono (s1.trans s2)))
/-- what a value must be to be a test's answer -/
def AsB (Q : Bool → Mem → Prop) : D → Mem → Prop
  | .bl b, M => Q b M
  | _, _ => False
theorem KT.asB {Q : Bool → Mem → Prop} {Q' : Bool → Hp → Prop} (k : KT B X F σ G Q Q') : KE B X F σ G (AsB Q) (fun x H' => ∃ b, x = .bl b ∧ Q' b H') := fun v H' F' d M' q s r rp => by
  cases d with
  | bl b => cases rp; exact ⟨b, rfl, k b H' F' M' q s r⟩
  | _ => exact False.elim q
theorem tx_cmp {Q : Bool → Mem → Prop} {op : CmpOp} (hm : behindInMarks op b = false) (h : EX B X a G M fun x M1 => EX B X b G M1 fun y M2 => OX B X (compareOp op) x y G M2 (AsB Q)) : TX B X (.Compare a [op] [b] pos) G M Q := fun F σ H Q' r k =>
  WT.of (pt_cmpR op_wo pe_we pe_we hm) (h F σ H _ r fun v1 H1 F1 d1 M1 q1 s1 r1 p1 => q1 F1 σ H1 _ r1 fun v2 H2 F2 d2 M2 q2 s2 r2 p2 => q2 F2 σ H2 _ v1 v2 r2 (p1.mono s2) p2 (k.mono (s1.trans s2)).asB)
theorem tx_val {Q : Bool → Mem → Prop} (he : ∀ whole, isTrue e X.env whole = (do let v ← whole; standAt e.pos; holding [v] (truthy v))) (h : EX B X e G M (AsB Q)) : TX B X e G M Q := fun F σ H Q' r k =>
  WT.of (pt_val pe_we he) (h F σ H _ r k.asB)
theorem chain_k {Q' : VK} {op op' : CmpOp} {c : Expr} {H : Hp} {v1 v2 : V} {d1 d2 : D} (k : KE B X F σ G Q Q') (r : R B X.K F σ H G M) (p1 : Rp X.K F v1 d1) (p2 : Rp X.K F v2 d2)
    (q : OX B X (compareOp op) d1 d2 G M (AsB fun b M3 => if b = true then EX B X c G M3 fun w M4 => OX B X (compareOp op') d2 w G M4 Q else Q (.bl false) M3)) :
    WO X (compareOp op) v1 v2 H (fun z H3 => ∃ k, z = .bl k ∧ (if k = true then WE X c σ H3 (fun w' H4 => WO X (compareOp op') v2 w' H4 Q') else Q' (.bl false) H3)) := by
  refine q F σ H _ v1 v2 r p1 p2 fun z H3 F3 d3 M3 q3 s3 r3 p3 => ?_
  cases d3 with
  | bl b =>
    cases p3
    refine ⟨b, rfl, ?_⟩
    cases b with
    | true =>
      rw [if_pos rfl]
      have q3' : EX B X c G M3 fun w M4 => OX B X (compareOp op') d2 w G M4 Q := q3
      exact q3' F3 σ H3 _ r3 fun v4 H4 F4 d4 M4 q4 s4 r4 p4 => q4 F4 σ H4 Q' v2 v4 r4 (p2.mono (s3.trans s4)) p4 (k.mono (s3.trans s4))
    | false =>
      rw [if_neg Bool.false_ne_true]
      have q3' : Q (.bl false) M3 := q3
      exact (k.mono s3).at r3 q3' (.bl false)
  | _ => exact False.elim q3
theorem ex_chain {op op' : CmpOp} (hm : lastMarks [op, op'] [b, c] = false)
    (h : EX B X a G M fun x M1 => EX B X b G M1 fun y M2 => OX B X (compareOp op) x y G M2 (AsB fun t M3 => if t = true then EX B X c G M3 fun w M4 => OX B X (compareOp op') y w G M4 Q else Q (.bl false) M3)) :
    EX B X (.Compare a [op, op'] [b, c] pos) G M Q := fun F σ H Q' r k =>
  WE.of (pe_chain op_wo op_wo pe_we pe_we pe_we hm) (h F σ H _ r fun v1 H1 F1 d1 M1 q1 s1 r1 p1 => q1 F1 σ H1 _ r1 fun v2 H2 F2 d2 M2 q2 s2 r2 p2 => chain_k (k.mono (s1.trans s2)) r2 (p1.mono s2) p2 q2)
theorem tx_chain {Q : Bool → Mem → Prop} {op op' : CmpOp} (hm : lastMarks [op, op'] [b, c] = false)
    (h : EX B X a G M fun x M1 => EX B X b G M1 fun y M2 => OX B X (compareOp op) x y G M2 (AsB fun t M3 => if t = true then EX B X c G M3 fun w M4 => OX B X (compareOp op') y w G M4 (AsB Q) else Q false M3)) :
    TX B X (.Compare a [op, op'] [b, c] pos) G M Q := fun F σ H Q' r k =>
  WT.of (pt_chain op_wo op_wo pe_we pe_we pe_we hm) (h F σ H _ r fun v1 H1 F1 d1 M1 q1 s1 r1 p1 => q1 F1 σ H1 _ r1 fun v2 H2 F2 d2 M2 q2 s2 r2 p2 => chain_k (k.mono (s1.trans s2)).asB r2 (p1.mono s2) p2 q2)

/-! ### and, or, not -/
theorem ite_mono {c A B A' B' : Prop} [Decidable c] (h : if c then A else B) (h1 : A → A') (h2 : B → B') : if c then A' else B' := by
  by_cases e : c
  · rw [if_pos e] at h ⊢; exact h1 h
  · rw [if_neg e] at h ⊢; exact h2 h
theorem TW.tx {Q : Bool → Mem → Prop} (h : TW B X e G M Q) : TX B X e G M Q := fun F σ H Q' r k => WT.of pw_ww.pt (h F σ H Q' r k)
theorem tw_and1 {Q : Bool → Mem → Prop} (h : TX B X a G M Q) : TW B X (.BoolOp .And [a] pos) G M Q := fun F σ H Q' r k => WW.of (pw_and1 pt_wt) (h F σ H Q' r k)
theorem tw_or1 {Q : Bool → Mem → Prop} (h : TX B X a G M Q) : TW B X (.BoolOp .Or [a] pos) G M Q := fun F σ H Q' r k => WW.of (pw_or1 pt_wt) (h F σ H Q' r k)
theorem tw_and {Q : Bool → Mem → Prop} {rest : List Expr} (h : TX B X a G M fun c M1 => if c = true then TW B X (.BoolOp .And (b :: rest) pos) G M1 Q else Q false M1) : TW B X (.BoolOp .And (a :: b :: rest) pos) G M Q := fun F σ H Q' r k =>
  WW.of (pw_and pt_wt pw_ww) (h F σ H _ r fun c H1 F1 M1 q1 s1 r1 => ite_mono q1 (fun q => q F1 σ H1 Q' r1 (k.mono s1)) fun q => k false H1 F1 M1 q s1 r1)
theorem tw_or {Q : Bool → Mem → Prop} {rest : List Expr} (h : TX B X a G M fun c M1 => if c = true then Q true M1 else TW B X (.BoolOp .Or (b :: rest) pos) G M1 Q) : TW B X (.BoolOp .Or (a :: b :: rest) pos) G M Q := fun F σ H Q' r k =>
  WW.of (pw_or pt_wt pw_ww) (h F σ H _ r fun c H1 F1 M1 q1 s1 r1 => ite_mono q1 (fun q => k true H1 F1 M1 q s1 r1) fun q => q F1 σ H1 Q' r1 (k.mono s1))
theorem tx_not {Q : Bool → Mem → Prop} (h : TX B X a G M fun c M1 => Q (!c) M1) : TX B X (.UnaryOp .Not a pos) G M Q := fun F σ H Q' r k =>
  WT.of (pt_not pt_wt) (h F σ H _ r fun c H1 F1 M1 q1 s1 r1 => k (!c) H1 F1 M1 q1 s1 r1)
theorem asB_k {Q : Bool → Mem → Prop} {Q' : VK} (k : ∀ b H' F' M', Q b M' → Same F F' → R B X.K F' σ H' G M' → Q' (.bl b) H') : KE B X F σ G (AsB Q) Q' := fun v H' F' d M' q s r rp => by
  cases d with
  | bl b => cases rp; exact k b H' F' M' q s r
  | _ => exact False.elim q
theorem ex_one {op} (h : EX B X a G M Q) : EX B X (.BoolOp op [a] pos) G M Q := fun F σ H Q' r k => WE.of (pe_one pe_we) (h F σ H Q' r k)
theorem ex_and {rest : List Expr} (h : EX B X a G M (AsB fun c M1 => if c = true then EX B X (.BoolOp .And (b :: rest) pos) G M1 Q else Q (.bl false) M1)) : EX B X (.BoolOp .And (a :: b :: rest) pos) G M Q := fun F σ H Q' r k =>
  WE.of (pe_and pe_we pe_we) (h F σ H _ r (asB_k fun c H1 F1 M1 q1 s1 r1 => ⟨c, rfl, ite_mono q1 (fun q => q F1 σ H1 Q' r1 (k.mono s1)) fun q => (k.mono s1).at r1 q (.bl false)⟩))
theorem ex_or {rest : List Expr} (h : EX B X a G M (AsB fun c M1 => if c = true then Q (.bl true) M1 else EX B X (.BoolOp .Or (b :: rest) pos) G M1 Q)) : EX B X (.BoolOp .Or (a :: b :: rest) pos) G M Q := fun F σ H Q' r k =>
  WE.of (pe_or pe_we pe_we) (h F σ H _ r (asB_k fun c H1 F1 M1 q1 s1 r1 => ⟨c, rfl, ite_mono q1 (fun q => (k.mono s1).at r1 q (.bl true)) fun q => q F1 σ H1 Q' r1 (k.mono s1)⟩))
theorem ex_not (h : EX B X a G M (AsB fun c M1 => Q (.bl (!c)) M1)) : EX B X (.UnaryOp .Not a pos) G M Q := fun F σ H Q' r k =>
  WE.of (pe_not pe_we) (h F σ H _ r (asB_k fun c H1 F1 M1 q1 s1 r1 => ⟨c, rfl, (k.mono s1).at r1 q1 (.bl (!c))⟩))
theorem ex_if (h : TX B X c G M fun t M1 => if t = true then EX B X a G M1 Q else EX B X b G M1 Q) : EX B X (.IfExp c a b pos) G M Q := fun F σ H Q' r k =>
  WE.of (pe_ifExp pt_wt pe_we pe_we) (h F σ H _ r fun t H1 F1 M1 q1 s1 r1 => ite_mono q1 (fun q => q F1 σ H1 Q' r1 (k.mono s1)) fun q => q F1 σ H1 Q' r1 (k.mono s1))

/-! ### arguments, tuples, lists, subscripts -/
theorem ax_nil {Q : List D → Mem → Prop} (q : Q [] M) : AX B X [] G M Q := fun F σ H Q' r k => WA.of pa_nil (k [] H F [] M q (Same.refl F) r .nil)
theorem ax_cons {Q : List D → Mem → Prop} (hs : starEach (e :: es) X.env = (false, eval e X.env) :: starEach es X.env) (h : EX B X e G M fun x M1 => AX B X es G M1 fun xs M2 => Q (x :: xs) M2) : AX B X (e :: es) G M Q := fun F σ H Q' r k =>
  WA.of (pa_cons pe_we pa_wa hs) (h F σ H _ r fun v1 H1 F1 d1 M1 q1 s1 r1 p1 => q1 F1 σ H1 _ r1 fun vs H2 F2 ds M2 q2 s2 r2 p2 => k _ H2 F2 _ M2 q2 (s1.trans s2) r2 (.cons (p1.mono s2) p2))
theorem sq_upd {K : PySem.W.Frag} {F : Hp} {p : Addr} {xs : List V} : SqT K (upd F p (.tup xs)) p xs := .inl (.inl upd_same)
theorem sl_upd {K : PySem.W.Frag} {F : Hp} {p : Addr} {xs : List V} : SqL K (upd F p (.lst xs)) p xs := .inl (.inl upd_same)
theorem ex_tup {x1} (h : AX B X es G M fun xs M1 => xs.length ≤ sizeLine ∧ Q (.tup xs) M1) : EX B X (.Tuple es x1 pos) G M Q := fun F σ H Q' r k =>
  WE.of (pe_tup pa_wa) (h F σ H _ r fun vs H1 F1 ds M1 q1 s1 r1 p1 => ⟨by rw [p1.length]; exact q1.1, fun p hp => (k.mono s1).new r1 hp q1.2 (.tup sq_upd (p1.mono (r1.new hp).1))⟩)
theorem ex_lst (h : AX B X es G M fun xs M1 => xs.length ≤ sizeLine ∧ Q (.lst xs) M1) : EX B X (.List es pos) G M Q := fun F σ H Q' r k =>
  WE.of (pe_lst pa_wa) (h F σ H _ r fun vs H1 F1 ds M1 q1 s1 r1 p1 => ⟨by rw [p1.length]; exact q1.1, fun p hp => (k.mono s1).new r1 hp q1.2 (.lst sl_upd (p1.mono (r1.new hp).1))⟩)
/-- a list that will be changed: a cell -/
theorem ex_lstM (h : AX B X es G M fun xs M1 => xs.length ≤ sizeLine ∧ ∀ p, M1 p = none → Q (.ref p) (mupd M1 p (.lst xs))) : EX B X (.List es pos) G M Q := fun F σ H Q' r k =>
  WE.of (pe_lst pa_wa) (h F σ H _ r fun vs H1 F1 ds M1 q1 s1 r1 p1 => ⟨by rw [p1.length]; exact q1.1, fun p hp => (k.mono s1).cell r1 hp (q1.2 p (r1.freeM hp)) ⟨vs, upd_same, p1⟩⟩)
theorem ex_sub (hs : PlainIx b) (h : EX B X a G M fun x M1 => EX B X b G M1 fun y M2 => IX B X x y G M2 Q) : EX B X (.Subscript a b pos) G M Q := fun F σ H Q' r k =>
  WE.of (pe_ix ix_wi pe_we pe_we hs) (h F σ H _ r fun v1 H1 F1 d1 M1 q1 s1 r1 p1 => q1 F1 σ H1 _ r1 fun v2 H2 F2 d2 M2 q2 s2 r2 p2 => q2 F2 σ H2 Q' v1 v2 r2 (p1.mono s2) p2 (k.mono (s1.trans s2)))
end

/-! ### by values -/
section
variable {B : Bs} {X : Cx} {G : Sl} {M : Mem} {Q : D → Mem → Prop} {i j : Int} {x y : Str}
theorem atI_rp {K : PySem.W.Frag} {F : Hp} {vs : List V} {ds : List D} {i : Int} {d : D} (r : RpAll K F vs ds) (h : atI ds i = some d) : ∃ v, atI vs i = some v ∧ Rp K F v d := by
  unfold atI at h ⊢
  rw [r.length]
  cases e : ixN ds.length i with
  | none => rw [e] at h; cases h
  | some k =>
    rw [e] at h
    exact r.get (i := k) h
theorem ix_t {ds : List D} {d : D} (h : atI ds i = some d) (q : Q d M) : IX B X (.tup ds) (.int i) G M Q := fun F σ H Q' v w r p1 p2 k => by
  cases p2
  cases p1 with
  | @tup a xs _ hs rs =>
    obtain ⟨u, hu, ru⟩ := atI_rp rs h
    exact WI.of ix_tup ⟨a, xs, i, u, rfl, rfl, sq_same r.ex hs, hu, k.at r q ru⟩
theorem ix_l {ds : List D} {d : D} (h : atI ds i = some d) (q : Q d M) : IX B X (.lst ds) (.int i) G M Q := fun F σ H Q' v w r p1 p2 k => by
  cases p2
  cases p1 with
  | @lst a xs _ hs rs =>
    obtain ⟨u, hu, ru⟩ := atI_rp rs h
    exact WI.of ix_list ⟨a, xs, i, u, rfl, rfl, r.ex.seq hs, hu, k.at r q ru⟩
/-- a cell's item -/
theorem ix_c {a : Addr} {ds : List D} {d : D} (hm : M a = some (.lst ds)) (h : atI ds i = some d) (q : Q d M) : IX B X (.ref a) (.int i) G M Q := fun F σ H Q' v w r p1 p2 k => by
  cases p2; cases p1
  obtain ⟨_, xs, hx, rs⟩ := r.mem a _ hm
  obtain ⟨u, hu, ru⟩ := atI_rp rs h
  exact WI.of ix_list ⟨a, xs, i, u, rfl, rfl, .inl (.inl hx), hu, k.at r q ru⟩
theorem ix_s {c : Nat} (hl : x.length ≤ sizeLine) (h : atI x.cps.toList i = some c) (q : Q (.str ⟨#[c]⟩) M) : IX B X (.str x) (.int i) G M Q := fun F σ H Q' v w r p1 p2 k => by
  cases p2; cases p1
  exact WI.of ix_str ⟨x, i, c, rfl, rfl, hl, h, k.at r q (.str _)⟩
theorem ox_add (q : Q (.int (i + j)) M) : OX B X (binaryOp .Add) (.int i) (.int j) G M Q := fun F σ H Q' v w r p1 p2 k => by
  cases p1; cases p2; exact WO.of op_add ⟨i, j, rfl, rfl, k.at r q (.int _)⟩
theorem ox_sub (q : Q (.int (i - j)) M) : OX B X (binaryOp .Sub) (.int i) (.int j) G M Q := fun F σ H Q' v w r p1 p2 k => by
  cases p1; cases p2; exact WO.of op_sub ⟨i, j, rfl, rfl, k.at r q (.int _)⟩
theorem ox_mul (h : CMul i j) (q : Q (.int (i * j)) M) : OX B X (binaryOp .Mult) (.int i) (.int j) G M Q := fun F σ H Q' v w r p1 p2 k => by
  cases p1; cases p2; exact WO.of op_mul ⟨i, j, rfl, rfl, h, k.at r q (.int _)⟩
theorem ox_fdiv (h : CDiv i j) (q : Q (.int (i / j)) M) : OX B X (binaryOp .FloorDiv) (.int i) (.int j) G M Q := fun F σ H Q' v w r p1 p2 k => by
  cases p1; cases p2; exact WO.of op_fdiv ⟨i, j, rfl, rfl, h, k.at r q (.int _)⟩
theorem ox_mod (h : 0 < j) (q : Q (.int (i % j)) M) : OX B X (binaryOp .Mod) (.int i) (.int j) G M Q := fun F σ H Q' v w r p1 p2 k => by
  cases p1; cases p2; exact WO.of op_mod ⟨i, j, rfl, rfl, h, k.at r q (.int _)⟩
theorem ox_addS (h : x.length + y.length ≤ sizeLine) (q : Q (.str (x ++ y)) M) : OX B X (binaryOp .Add) (.str x) (.str y) G M Q := fun F σ H Q' v w r p1 p2 k => by
  cases p1; cases p2; exact WO.of op_add_str ⟨x, y, rfl, rfl, h, k.at r q (.str _)⟩
theorem ox_lt (q : Q (.bl (decide (i < j))) M) : OX B X (compareOp .Lt) (.int i) (.int j) G M Q := fun F σ H Q' v w r p1 p2 k => by
  cases p1; cases p2; exact WO.of op_lt ⟨i, j, rfl, rfl, k.at r q (.bl _)⟩
theorem ox_le (q : Q (.bl (decide (i ≤ j))) M) : OX B X (compareOp .LtE) (.int i) (.int j) G M Q := fun F σ H Q' v w r p1 p2 k => by
  cases p1; cases p2; exact WO.of op_le ⟨i, j, rfl, rfl, k.at r q (.bl _)⟩
theorem ox_gt (q : Q (.bl (decide (j < i))) M) : OX B X (compareOp .Gt) (.int i) (.int j) G M Q := fun F σ H Q' v w r p1 p2 k => by
  cases p1; cases p2; exact WO.of op_gt ⟨i, j, rfl, rfl, k.at r q (.bl _)⟩
theorem ox_ge (q : Q (.bl (decide (j ≤ i))) M) : OX B X (compareOp .GtE) (.int i) (.int j) G M Q := fun F σ H Q' v w r p1 p2 k => by
  cases p1; cases p2; exact WO.of op_ge ⟨i, j, rfl, rfl, k.at r q (.bl _)⟩
theorem dec_of {p q : Prop} [Decidable p] [Decidable q] (h : p ↔ q) : decide p = decide q := by
  by_cases hp : p
  · rw [decide_eq_true hp, decide_eq_true (h.mp hp)]
  · rw [decide_eq_false hp, decide_eq_false fun z => hp (h.mpr z)]
theorem ox_eqI (q : Q (.bl (decide (i = j))) M) : OX B X (compareOp .Eq) (.int i) (.int j) G M Q := fun F σ H Q' v w r p1 p2 k => by
  cases p1; cases p2; exact WO.of op_eq ⟨rfl, by rw [dec_of (⟨fun e => V.int.inj e, fun e => congrArg V.int e⟩ : V.int i = V.int j ↔ i = j)]; exact k.at r q (.bl _)⟩
theorem ox_neI (q : Q (.bl (!decide (i = j))) M) : OX B X (compareOp .NotEq) (.int i) (.int j) G M Q := fun F σ H Q' v w r p1 p2 k => by
  cases p1; cases p2; exact WO.of op_ne ⟨rfl, by rw [dec_of (⟨fun e => V.int.inj e, fun e => congrArg V.int e⟩ : V.int i = V.int j ↔ i = j)]; exact k.at r q (.bl _)⟩
theorem ox_eqS (q : Q (.bl (decide (x = y))) M) : OX B X (compareOp .Eq) (.str x) (.str y) G M Q := fun F σ H Q' v w r p1 p2 k => by
  cases p1; cases p2; exact WO.of op_eq ⟨rfl, by rw [dec_of (⟨fun e => V.str.inj e, fun e => congrArg V.str e⟩ : V.str x = V.str y ↔ x = y)]; exact k.at r q (.bl _)⟩
theorem ox_neS (q : Q (.bl (!decide (x = y))) M) : OX B X (compareOp .NotEq) (.str x) (.str y) G M Q := fun F σ H Q' v w r p1 p2 k => by
  cases p1; cases p2; exact WO.of op_ne ⟨rfl, by rw [dec_of (⟨fun e => V.str.inj e, fun e => congrArg V.str e⟩ : V.str x = V.str y ↔ x = y)]; exact k.at r q (.bl _)⟩
theorem ox_eqB {x y : Bool} (q : Q (.bl (decide (x = y))) M) : OX B X (compareOp .Eq) (.bl x) (.bl y) G M Q := fun F σ H Q' v w r p1 p2 k => by
  cases p1; cases p2; exact WO.of op_eq ⟨rfl, by rw [dec_of (⟨fun e => V.bl.inj e, fun e => congrArg V.bl e⟩ : V.bl x = V.bl y ↔ x = y)]; exact k.at r q (.bl _)⟩
theorem ox_neB {x y : Bool} (q : Q (.bl (!decide (x = y))) M) : OX B X (compareOp .NotEq) (.bl x) (.bl y) G M Q := fun F σ H Q' v w r p1 p2 k => by
  cases p1; cases p2; exact WO.of op_ne ⟨rfl, by rw [dec_of (⟨fun e => V.bl.inj e, fun e => congrArg V.bl e⟩ : V.bl x = V.bl y ↔ x = y)]; exact k.at r q (.bl _)⟩
/-- is None -/
def D.isN : D → Bool
  | .non => true
  | _ => false
theorem Rp.isN {K : PySem.W.Frag} {F : Hp} {v : V} {d : D} (r : Rp K F v d) : decide (v = .non) = d.isN := by
  cases r <;> first | rfl | exact decide_eq_false (fun e => nomatch e)
theorem ox_is {d : D} (q : Q (.bl d.isN) M) : OX B X (compareOp .Is) d .non G M Q := fun F σ H Q' v w r p1 p2 k => by
  cases p2; exact WO.of op_isN ⟨rfl, by rw [p1.isN]; exact k.at r q (.bl _)⟩
theorem ox_isnot {d : D} (q : Q (.bl (!d.isN)) M) : OX B X (compareOp .IsNot) d .non G M Q := fun F σ H Q' v w r p1 p2 k => by
  cases p2; exact WO.of op_notN ⟨rfl, by rw [p1.isN]; exact k.at r q (.bl _)⟩
end
end FL

namespace FL
open PySem PySem.Spec PyProof.Rows L2

structure En where
  nx : Sl → Mem → Prop
  rt : D → Mem → Prop
  bk : Sl → Mem → Prop := fun _ _ => False
  ct : Sl → Mem → Prop := fun _ _ => False
/-- then n -/
abbrev En.sq (E : En) (n : Sl → Mem → Prop) : En := ⟨n, E.rt, E.bk, E.ct⟩
/-- a loop's turn, then n -/
abbrev En.lp (E : En) (n : Sl → Mem → Prop) : En := ⟨n, E.rt, E.nx, n⟩
/-- a def's own ends -/
abbrev En.df (Q : D → Mem → Prop) : En := ⟨fun _ M' => Q .non M', Q, fun _ _ => False, fun _ _ => False⟩
def KN (B : Bs) (X : Cx) (F : Hp) (n : Sl → Mem → Prop) (n' : L2.St → Hp → Prop) : Prop := ∀ σ' H' F' G' M', n G' M' → Same F F' → R B X.K F' σ' H' G' M' → n' σ' H'
def KR (B : Bs) (X : Cx) (F : Hp) (q : D → Mem → Prop) (q' : VK) : Prop := ∀ v H' F' d M', q d M' → Same F F' → (∃ σ' G', R B X.K F' σ' H' G' M') → Rp X.K F' v d → q' v H'
structure KS (B : Bs) (X : Cx) (F : Hp) (E : En) (D' : Ends) : Prop where
  nx : KN B X F E.nx D'.nx
  rt : KR B X F E.rt D'.rt
  bk : KN B X F E.bk D'.bk
  ct : KN B X F E.ct D'.ct
def SX (B : Bs) (X : Cx) (st : Stmt) (E : En) (G : Sl) (M : Mem) : Prop := ∀ F σ H D', R B X.K F σ H G M → KS B X F E D' → WS X st D' σ H
def SXs (B : Bs) (X : Cx) (st : List Stmt) (E : En) (G : Sl) (M : Mem) : Prop := ∀ F σ H D', R B X.K F σ H G M → KS B X F E D' → WSs X st D' σ H
def GX (B : Bs) (X : Cx) (tg : Expr) (d : D) (G : Sl) (M : Mem) (Q : Sl → Mem → Prop) : Prop := ∀ F σ H Q' v, R B X.K F σ H G M → Rp X.K F v d → KN B X F Q Q' → WG X tg v σ H Q'
def WGs (X : Cx) (ts : List Expr) : TGs := fun vs σ H Q => ∀ (pins : List (Addr × Obj)) (s : Shared) (us : List Value), Inv X pins σ H s → Vals vs us →
  wpAny (model X.prog X.w) X.A (assignInOrder ((assignEach ts X.env).map (·.2)) us) (fun _ s' => ∃ σ' H', Inv X pins σ' H' s' ∧ Q σ' H') X.xe s
theorem pgs_wgs {X : Cx} {ts : List Expr} : PGs X ts (WGs X ts) := ⟨fun pins s _ _ _ us _ I r h => h pins s us I r⟩
theorem WGs.of {X : Cx} {ts : List Expr} {t : TGs} {vs : List V} {σ : L2.St} {H : Hp} {Q : L2.St → Hp → Prop} (h : PGs X ts t) (q : t vs σ H Q) : WGs X ts vs σ H Q := fun pins s us I r => h.run pins s σ H vs us Q I r q
def GXs (B : Bs) (X : Cx) (ts : List Expr) (ds : List D) (G : Sl) (M : Mem) (Q : Sl → Mem → Prop) : Prop := ∀ F σ H Q' vs, R B X.K F σ H G M → RpAll X.K F vs ds → KN B X F Q Q' → WGs X ts vs σ H Q'

section
variable {B : Bs} {X : Cx} {a b c e o tg : Expr} {es : List Expr} {G G' : Sl} {M M' : Mem} {Q Q2 : D → Mem → Prop} {E : En} {pos p pos' : Pos} {d : D} {F F1 : Hp} {σ : L2.St} {st : Stmt} {sts rest : List Stmt}
theorem KN.mono {n : Sl → Mem → Prop} {n' : L2.St → Hp → Prop} (e : Same F F1) (k : KN B X F n n') : KN B X F1 n n' := fun σ' H' F' G' M' q s r => k σ' H' F' G' M' q (e.trans s) r
theorem KR.mono {q : D → Mem → Prop} {q' : VK} (e : Same F F1) (k : KR B X F q q') : KR B X F1 q q' := fun v H' F' d M' h s => k v H' F' d M' h (e.trans s)
theorem KS.mono {D' : Ends} (e : Same F F1) (k : KS B X F E D') : KS B X F1 E D' := ⟨k.nx.mono e, k.rt.mono e, k.bk.mono e, k.ct.mono e⟩
theorem SXs.imp {E2 : En} (h : SXs B X sts E G M) (h1 : ∀ G M, E.nx G M → E2.nx G M) (h2 : ∀ d M, E.rt d M → E2.rt d M) (h3 : ∀ G M, E.bk G M → E2.bk G M) (h4 : ∀ G M, E.ct G M → E2.ct G M) : SXs B X sts E2 G M := fun F σ H D' r k =>
  h F σ H D' r ⟨fun _ _ _ _ _ q => k.nx _ _ _ _ _ (h1 _ _ q), fun _ _ _ _ _ q => k.rt _ _ _ _ _ (h2 _ _ q), fun _ _ _ _ _ q => k.bk _ _ _ _ _ (h3 _ _ q), fun _ _ _ _ _ q => k.ct _ _ _ _ _ (h4 _ _ q)⟩

/-! ### blocks -/
theorem sxs_nil (q : E.nx G M) : SXs B X [] E G M := fun F σ H D' r k => WSs.of pss_nil (k.nx σ H F G M q (Same.refl F) r)
theorem sxs_cons (h : SX B X st (E.sq (SXs B X rest E)) G M) : SXs B X (st :: rest) E G M := fun F σ H D' r k =>
  WSs.of (pss_cons ps_ws pss_wss) (h F σ H _ r ⟨fun σ1 H1 F1 G1 M1 q1 s1 r1 => q1 F1 σ1 H1 D' r1 (k.mono s1), k.rt, k.bk, k.ct⟩)
theorem sxs_one (h : SX B X st E G M) : SXs B X [st] E G M := fun F σ H D' r k => WSs.of (pss_one ps_ws) (h F σ H D' r k)
/-- less is known of the cells -/
theorem sxs_less (h : ∀ a o, M' a = some o → M a = some o) (q : SXs B X sts E G M') : SXs B X sts E G M := fun F σ H D' r k => q F σ H D' (r.less h) k
theorem ex_less (h : EX B X e G M fun d M1 => ∃ M2 : Mem, (∀ a o, M2 a = some o → M1 a = some o) ∧ Q d M2) : EX B X e G M Q := fun F σ H Q' r k =>
  h F σ H Q' r fun v H1 F1 d1 M1 ⟨M2, hl, q⟩ s1 r1 p1 => k v H1 F1 d1 M2 q s1 (r1.less hl) p1
/-- a list cell that is handed on frozen -/
theorem ex_freeze (h : EX B X e G M fun d M1 => ∃ p ds, d = .ref p ∧ M1 p = some (.lst ds) ∧ Q (.lst ds) (mdel M1 p)) : EX B X e G M Q := fun F σ H Q' r k =>
  h F σ H Q' r fun v H1 F1 d1 M1 ⟨p, ds, e, hm, q⟩ s1 r1 p1 => by
    subst e; cases p1
    obtain ⟨F2, s2, r2, p2⟩ := r1.freeze hm
    exact k _ H1 F2 _ _ q (s1.trans s2) r2 p2
/-- a slot's list cell is frozen -/
theorem sxs_freeze {i : Nat} {p : Addr} {ds : List D} (hG : G[i]? = some (some (.ref p))) (hM : M p = some (.lst ds)) (h : SXs B X sts E (G.set i (some (.lst ds))) (mdel M p)) : SXs B X sts E G M := fun F σ H D' r k => by
  obtain ⟨F2, s2, r2, p2⟩ := r.freeze hM
  refine h F2 σ H D' ⟨?_, r2.ex, r2.mem, r2.bf, r2.bk⟩ (k.mono s2)
  obtain ⟨v, hv, pv⟩ := r2.slots.2 i _ hG
  cases pv
  have z := r2.slots.set (i := i) p2
  have e : σ.set i (some (.ref p)) = σ := by
    apply List.ext_getElem?
    intro j
    by_cases hj : i = j
    · subst hj
      rw [List.getElem?_set_self (List.getElem?_eq_some_iff.mp hv).1, hv]
    · rw [List.getElem?_set_ne hj]
  rw [e] at z
  exact z

/-! ### small statements -/
theorem sx_pass (q : E.nx G M) : SX B X (.Pass pos) E G M := fun F σ H D' r k => WS.of ps_pass (k.nx σ H F G M q (Same.refl F) r)
theorem sx_break (q : E.bk G M) : SX B X (.Break pos) E G M := fun F σ H D' r k => WS.of ps_break (k.bk σ H F G M q (Same.refl F) r)
theorem sx_continue (q : E.ct G M) : SX B X (.Continue pos) E G M := fun F σ H D' r k => WS.of ps_continue (k.ct σ H F G M q (Same.refl F) r)
theorem sx_expr (hs : swapsWith e none pos.line X.env = pure false) (h : EX B X e G M fun _ M1 => E.nx G M1) : SX B X (.Expr e pos) E G M := fun F σ H D' r k =>
  WS.of (ps_expr pe_we hs) (h F σ H _ r fun v H1 F1 d1 M1 q1 s1 r1 p1 => k.nx σ H1 F1 G M1 q1 s1 r1)
theorem sx_ret (h : EX B X e G M E.rt) : SX B X (.Return (some e) pos) E G M := fun F σ H D' r k =>
  WS.of (ps_ret pe_we) (h F σ H _ r fun v H1 F1 d1 M1 q1 s1 r1 p1 => k.rt v H1 F1 d1 M1 q1 s1 ⟨_, _, r1⟩ p1)
theorem sx_retN (q : E.rt .non M) : SX B X (.Return none pos) E G M := fun F σ H D' r k => WS.of ps_retN (k.rt .non H F .non M q (Same.refl F) ⟨_, _, r⟩ .non)
theorem sx_if {A1 B1 : List Stmt} (h : TX B X c G M fun t M1 => if t = true then SXs B X A1 E G M1 else SXs B X B1 E G M1) : SX B X (.If c A1 B1 pos) E G M := fun F σ H D' r k =>
  WS.of (ps_if pt_wt pss_wss pss_wss) (h F σ H _ r fun t H1 F1 M1 q1 s1 r1 => ite_mono q1 (fun q => q F1 σ H1 D' r1 (k.mono s1)) fun q => q F1 σ H1 D' r1 (k.mono s1))

/-! ### targets -/
/-- a name to which is stored -/
structure Lc (X : Cx) (i : Nat) (x : Str) : Prop where
  nd : X.N.Nodup
  n : X.N[i]? = some x
  l : Loc X.env.scope x
  f : X.fn x = true ∨ X.env.scope.names.lookup x = some .local
theorem R.set {K : PySem.W.Frag} {H : Hp} {i : Nat} {v : V} (r : R B K F σ H G M) (p : Rp K F v d) : R B K F (σ.set i (some v)) H (G.set i (some d)) M := ⟨r.slots.set p, r.ex, r.mem, r.bf, r.bk⟩
theorem gx_name {i : Nat} {x : Str} {Q : Sl → Mem → Prop} (h : Lc X i x) (q : Q (G.set i (some d)) M) : GX B X (.Name x pos) d G M Q := fun F σ H Q' v r p k =>
  WG.of (pg_name h.nd h.n h.l h.f) (k _ H F _ M q (Same.refl F) (r.set p))
theorem gxs_nil {Q : Sl → Mem → Prop} (q : Q G M) : GXs B X [] [] G M Q := fun F σ H Q' vs r p k => by
  cases p
  exact WGs.of pgs_nil ⟨rfl, k σ H F G M q (Same.refl F) r⟩
theorem gxs_cons {Q : Sl → Mem → Prop} {t : Expr} {ts : List Expr} {ds : List D} (hs : (assignEach (t :: ts) X.env).map (·.2) = assign t X.env :: (assignEach ts X.env).map (·.2))
    (h : GX B X t d G M fun G1 M1 => GXs B X ts ds G1 M1 Q) : GXs B X (t :: ts) (d :: ds) G M Q := fun F σ H Q' vs r p k => by
  cases p with
  | cons p1 p2 => exact WGs.of (pgs_cons pg_wg pgs_wgs hs) ⟨_, _, rfl, h F σ H _ _ r p1 fun σ1 H1 F1 G1 M1 q1 s1 r1 => q1 F1 σ1 H1 Q' _ r1 (p2.mono s1) (k.mono s1)⟩
theorem gx_tup {Q : Sl → Mem → Prop} {ts : List Expr} {kk : Nat} {ds : List D} {n : Nat} (hc : X.calm = true) (hl : ds.length = n) (hn : (assignEach ts X.env).length = n) (hst : (assignEach ts X.env).findIdx? (·.1) = none)
    (h : GXs B X ts ds G M Q) : GX B X (.Tuple ts kk pos) (.tup ds) G M Q := fun F σ H Q' v r p k => by
  cases p with
  | @tup a xs _ hq ra => exact WG.of (pg_tup hc pgs_wgs hn hst) ⟨a, xs, rfl, sq_same r.ex hq, by rw [ra.length, hl], h F σ H Q' xs r ra k⟩
theorem sx_asg (hs : swapsWithSole [tg] e pos.line X.env = pure false) (hw : swappedStores [tg] e X.env = pure none) (h1 : (assignEach [tg] X.env).map (·.2) = [assign tg X.env])
    (h : EX B X e G M fun d M1 => GX B X tg d G M1 E.nx) : SX B X (.Assign [tg] e pos) E G M := fun F σ H D' r k =>
  WS.of (ps_asg pe_we pg_wg hs hw h1) (h F σ H _ r fun v H1 F1 d1 M1 q1 s1 r1 p1 => q1 F1 σ H1 _ v r1 p1 (k.nx.mono s1))
theorem sx_set {i : Nat} {x : Str} (h : Lc X i x) (hs : swapsWith e (some (.Name x pos')) pos.line X.env = pure false) (q : EX B X e G M fun d M1 => E.nx (G.set i (some d)) M1) : SX B X (.Assign [.Name x pos'] e pos) E G M := fun F σ H D' r k =>
  WS.of (ps_set h.nd h.n h.l pe_we hs h.f) (q F σ H _ r fun v H1 F1 d1 M1 q1 s1 r1 p1 => k.nx _ H1 F1 _ M1 q1 s1 (r1.set p1))
/-- a, b = x, y with plain local names -/
theorem sx_par {i j : Nat} {x y : Str} {px py pt : Pos} {kt k2 pt2} (hc : X.calm = true) (hN : X.N.Nodup) (hi : X.N[i]? = some x) (hj : X.N[j]? = some y) (hij : i ≠ j) (hx : X.env.scope.names.lookup x = some .local) (hy : X.env.scope.names.lookup y = some .local)
    (hw : swappedStores [.Tuple [.Name x px, .Name y py] kt pt] (.Tuple [a, b] k2 pt2) X.env = pure (some [x, y])) (hs : swapsWithSole [.Tuple [.Name x px, .Name y py] kt pt] (.Tuple [a, b] k2 pt2) pos.line X.env = pure false)
    (ha : starEach [a, b] X.env = (false, eval a X.env) :: starEach [b] X.env) (hb : starEach [b] X.env = (false, eval b X.env) :: starEach [] X.env)
    (h : EX B X a G M fun d1 M1 => EX B X b G M1 fun d2 M2 => E.nx ((G.set i (some d1)).set j (some d2)) M2) : SX B X (.Assign [.Tuple [.Name x px, .Name y py] kt pt] (.Tuple [a, b] k2 pt2) pos) E G M := fun F σ H D' r k =>
  WS.of (ps_par hc hN hi hj hij hx hy (pa_cons pe_we (pa_cons pe_we pa_nil hb) ha) hw hs) (h F σ H _ r fun v1 H1 F1 d1 M1 q1 s1 r1 p1 => q1 F1 σ H1 _ r1 fun v2 H2 F2 d2 M2 q2 s2 r2 p2 =>
    ⟨v1, v2, rfl, k.nx _ H2 F2 _ M2 q2 (s1.trans s2) ((r2.set (p1.mono s2)).set p2)⟩)
/-- a cell's item is stored -/
theorem gx_sub {Q : Sl → Mem → Prop} {i : Expr} (ha : ∀ v, assign (.Subscript o i pos) X.env v = (do
      let ov ← holding [v] (eval o X.env)
      let iv ← holding [v, ov] (eval i X.env)
      standAt pos
      holding [v, ov, iv] (setItem ov iv v)
      release [v, ov, iv] []))
    (h : EX B X o G M fun x M1 => EX B X i G M1 fun y M2 => ∃ l ds k j, x = .ref l ∧ y = .int k ∧ M2 l = some (.lst ds) ∧ ixN ds.length k = some j ∧ Q G (mupd M2 l (.lst (ds.set j d)))) : GX B X (.Subscript o i pos) d G M Q := fun F σ H Q' v r p k =>
  WG.of (pg_sub pe_we pe_we set_list ha) (h F σ H _ r fun v1 H1 F1 d1 M1 q1 s1 r1 p1 => q1 F1 σ H1 _ r1 fun v2 H2 F2 d2 M2 q2 s2 r2 p2 => by
    obtain ⟨l, ds, kk, j, e1, e2, hm, hj, q⟩ := q2
    subst e1; subst e2; cases p1; cases p2
    obtain ⟨f0, xs, hx, rx⟩ := r2.mem l _ hm
    refine ⟨l, xs, kk, j, rfl, rfl, hx, by rw [rx.length]; exact hj, ?_⟩
    exact k σ _ F2 G _ q (s1.trans s2) (r2.write hm ⟨_, upd_same, rx.set j (p.mono (s1.trans s2))⟩))

/-! ### while -/
theorem sx_while {body : List Stmt} (hp : PassesOwn (model X.prog X.w) X.A X.env X.xe) (I : Nat → Sl → Mem → Prop) {m : Nat} (h0 : I m G M)
    (h : ∀ m G' M', I m G' M' → TX B X c G' M' fun t M1 => if t = true then SXs B X body (E.lp fun G2 M2 => ∃ m', m' < m ∧ I m' G2 M2) G' M1 else E.nx G' M1) :
    SX B X (.While c body [] pos) E G M := fun F σ H D' r k =>
  WS.of (ps_while hp pt_wt pss_wss) ⟨fun m σ' H' => ∃ F' G' M', Same F F' ∧ R B X.K F' σ' H' G' M' ∧ I m G' M', ⟨m, F, G, M, Same.refl F, r, h0⟩, fun m σ' H' ⟨F', G', M', s', r', i'⟩ =>
    h m G' M' i' F' σ' H' _ r' fun t H1 F1 M1 q1 s1 r1 => by
      cases t with
      | true =>
        rw [if_pos rfl] at q1 ⊢
        refine ⟨fun σ2 H2 => ∃ m', m' < m ∧ ∃ F' G' M', Same F F' ∧ R B X.K F' σ2 H2 G' M' ∧ I m' G' M', fun _ _ z => z, q1 F1 σ' H1 _ r1 ⟨?_, (k.mono (s'.trans s1)).rt, (k.mono (s'.trans s1)).nx, ?_⟩⟩
        · intro σ2 H2 F2 G2 M2 ⟨m', hm, i2⟩ s2 r2
          exact ⟨m', hm, F2, G2, M2, (s'.trans s1).trans s2, r2, i2⟩
        · intro σ2 H2 F2 G2 M2 ⟨m', hm, i2⟩ s2 r2
          exact ⟨m', hm, F2, G2, M2, (s'.trans s1).trans s2, r2, i2⟩
      | false =>
        rw [if_neg Bool.false_ne_true] at q1 ⊢
        exact k.nx _ _ _ _ _ q1 (s'.trans s1) r1⟩
end

/-! ### what is walked -/
/-- while F stands, J gives the data ds, one by one -/
structure Wk (K : PySem.W.Frag) (F : Hp) (J : It) (ds : List D) : Prop where
  goes : ∀ i H, i < ds.length → Same F H → J.go i H
  stops : ∀ H, Same F H → J.stop ds.length H
  yields : ∀ i H x H', i < ds.length → Same F H → J.yld i H x H' → ∃ d, ds[i]? = some d ∧ ∀ B F1 σ G M, Same F F1 → R B K F1 σ H G M → ∃ F2, Same F1 F2 ∧ R B K F2 σ H' G M ∧ Rp K F2 x d
def WIt (X : Cx) (tg iter : Expr) : TI := fun σ H Rr => ∀ (pins : List (Addr × Obj)) (s : Shared), Inv X pins σ H s →
  wpAny (model X.prog X.w) X.A (eval iter X.env) (fun v s1 => wpAny (model X.prog X.w) X.A (pyIter v) (PIE X pins σ tg Rr) X.xe s1) X.xe s
theorem pi_wi {X : Cx} {tg iter : Expr} : PI X tg iter (WIt X tg iter) := ⟨fun pins s _ _ _ I h => h pins s I⟩
theorem WIt.of {X : Cx} {tg iter : Expr} {t : TI} {σ : L2.St} {H : Hp} {Rr : It → Hp → Prop} (h : PI X tg iter t) (q : t σ H Rr) : WIt X tg iter σ H Rr := fun pins s I => h.run pins s σ H Rr I q
/-- an iterable that gives ds -/
def LX (B : Bs) (X : Cx) (tg iter : Expr) (G : Sl) (M : Mem) (Q : List D → Mem → Prop) : Prop := ∀ F σ H (R' : It → Hp → Prop), R B X.K F σ H G M →
  (∀ J H' F' ds M', Q ds M' → Same F F' → R B X.K F' σ H' G M' → Wk X.K F' J ds → R' J H') → WIt X tg iter σ H R'
section
variable {B : Bs} {X : Cx} {a b c e o tg iter : Expr} {es : List Expr} {G G' : Sl} {M M' : Mem} {Q : List D → Mem → Prop} {E : En} {pos p pos' : Pos} {F F1 : Hp} {σ : L2.St} {st : Stmt} {sts rest : List Stmt}
theorem wk_list {K : PySem.W.Frag} {a : Addr} {xs : List V} {ds : List D} (h : SqL K F a xs) (r : RpAll K F xs ds) : Wk K F (Itl K a) ds where
  goes := fun i H hi s => ⟨xs, xs[i]'(by rw [r.length]; exact hi), s.seq h, by simp [r.length, hi]⟩
  stops := fun H s => ⟨xs, s.seq h, by rw [r.length]; exact Nat.le_refl _⟩
  yields := fun i H x H' hi s y => by
    obtain ⟨e, y⟩ := y
    subst e
    obtain ⟨d, hd, rd⟩ := r.getV (y xs (s.seq h))
    exact ⟨d, hd, fun B F1 σ G M s1 r1 => ⟨F1, Same.refl F1, r1, rd.mono s1⟩⟩
theorem wk_tup {K : PySem.W.Frag} {a : Addr} {xs : List V} {ds : List D} (h : SqT K F a xs) (r : RpAll K F xs ds) : Wk K F (Itt K a) ds where
  goes := fun i H hi s => ⟨xs, xs[i]'(by rw [r.length]; exact hi), sq_same s h, by simp [r.length, hi]⟩
  stops := fun H s => ⟨xs, sq_same s h, by rw [r.length]; exact Nat.le_refl _⟩
  yields := fun i H x H' hi s y => by
    obtain ⟨e, y⟩ := y
    subst e
    obtain ⟨d, hd, rd⟩ := r.getV (y xs (sq_same s h))
    exact ⟨d, hd, fun B F1 σ G M s1 r1 => ⟨F1, Same.refl F1, r1, rd.mono s1⟩⟩
/-- the ints that range gives -/
def rangeD (lo : Int) (n : Nat) : List D := (List.range n).map fun (i : Nat) => D.int (lo + (i : Int))
theorem rangeD_len {lo : Int} {n : Nat} : (rangeD lo n).length = n := by simp [rangeD]
theorem rangeD_at {lo : Int} {n i : Nat} {d : D} (h : (rangeD lo n)[i]? = some d) : i < n ∧ d = .int (lo + (i : Int)) := by
  have hi : i < n := by
    have := (List.getElem?_eq_some_iff.mp h).1
    rwa [rangeD_len] at this
  refine ⟨hi, ?_⟩
  unfold rangeD at h
  rw [List.getElem?_map, List.getElem?_range hi] at h
  exact (Option.some.inj h).symm
theorem wk_range {K : PySem.W.Frag} {lo : Int} {n : Nat} : Wk K F (Itr lo n) (rangeD lo n) where
  goes := fun i H hi s => by rw [rangeD_len] at hi; exact hi
  stops := fun H s => by
    show n ≤ _
    rw [rangeD_len]
    exact Nat.le_refl n
  yields := fun i H x H' hi s y => by
    obtain ⟨e, y⟩ := y
    subst e; subst y
    have hi' : i < n := by rw [rangeD_len] at hi; exact hi
    exact ⟨.int (lo + i), by unfold rangeD; rw [List.getElem?_map, List.getElem?_range hi']; rfl, fun B F1 σ G M s1 r1 => ⟨F1, Same.refl F1, r1, .int _⟩⟩
theorem lx_list (h : EX B X e G M fun d M1 => ∃ ds, d = .lst ds ∧ Q ds M1) : LX B X tg e G M Q := fun F σ H R' r k =>
  WIt.of (pi_list pe_we) (h F σ H _ r fun v H1 F1 d1 M1 ⟨ds, e1, q⟩ s1 r1 p1 => by
    subst e1
    cases p1 with
    | @lst a xs _ hs rs => exact ⟨a, rfl, ⟨xs, r1.ex.seq hs⟩, k _ _ F1 ds M1 q s1 r1 (wk_list hs rs)⟩)
theorem lx_tup (h : EX B X e G M fun d M1 => ∃ ds, d = .tup ds ∧ Q ds M1) : LX B X tg e G M Q := fun F σ H R' r k =>
  WIt.of (pi_tup pe_we) (h F σ H _ r fun v H1 F1 d1 M1 ⟨ds, e1, q⟩ s1 r1 p1 => by
    subst e1
    cases p1 with
    | @tup a xs _ hs rs => exact ⟨a, rfl, ⟨xs, sq_same r1.ex hs⟩, k _ _ F1 ds M1 q s1 r1 (wk_tup hs rs)⟩)
/-- a list cell that stays as it is while it is walked: it is frozen -/
theorem lx_cell (h : EX B X e G M fun d M1 => ∃ l ds, d = .ref l ∧ M1 l = some (.lst ds) ∧ Q ds (mdel M1 l)) : LX B X tg e G M Q := fun F σ H R' r k =>
  WIt.of (pi_list pe_we) (h F σ H _ r fun v H1 F1 d1 M1 ⟨l, ds, e1, hm, q⟩ s1 r1 p1 => by
    subst e1
    cases p1
    obtain ⟨F2, s2, r2, p2⟩ := r1.freeze hm
    cases p2 with
    | @lst a xs _ hs rs => exact ⟨l, rfl, ⟨xs, r2.ex.seq hs⟩, k _ _ F2 ds _ q (s1.trans s2) r2 (wk_list hs rs)⟩)
theorem lx_range1 (hg : Gl X "range") (hm : X.mg "range" = none) (hs : starEach [a] X.env = [(false, eval a X.env)])
    (h : EX B X a G M fun d M1 => ∃ n : Int, d = .int n ∧ -(2 ^ 62) ≤ n ∧ n < 2 ^ 62 ∧ Q (rangeD 0 n.toNat) M1) : LX B X tg (.Call (.Name "range" p) [a] [] pos) G M Q := fun F σ H R' r k =>
  WIt.of (pi_range1 hg hm (pa_cons pe_we pa_nil (by rw [hs]; rfl)) hs) (h F σ H _ r fun v H1 F1 d1 M1 ⟨n, e1, h1, h2, q⟩ s1 r1 p1 => by
    subst e1; cases p1
    exact ⟨n, rfl, h1, h2, k _ _ F1 _ M1 q s1 r1 wk_range⟩)
theorem lx_range2 (hg : Gl X "range") (hm : X.mg "range" = none) (hs : starEach [a, b] X.env = [(false, eval a X.env), (false, eval b X.env)]) (hs2 : starEach [b] X.env = [(false, eval b X.env)])
    (h : EX B X a G M fun d M1 => EX B X b G M1 fun d2 M2 => ∃ m n : Int, d = .int m ∧ d2 = .int n ∧ (-(2 ^ 62) ≤ m ∧ m < 2 ^ 62 ∧ -(2 ^ 62) ≤ n ∧ n < 2 ^ 62) ∧ Q (rangeD m (n - m).toNat) M2) : LX B X tg (.Call (.Name "range" p) [a, b] [] pos) G M Q := fun F σ H R' r k =>
  WIt.of (pi_range2 hg hm (pa_cons pe_we (pa_cons pe_we pa_nil (by rw [hs2]; rfl)) (by rw [hs, hs2])) hs hs2) (h F σ H _ r fun v H1 F1 d1 M1 q1 s1 r1 p1 => q1 F1 σ H1 _ r1 fun v2 H2 F2 d2 M2 q2 s2 r2 p2 => by
    obtain ⟨m, n, e1, e2, hh, q⟩ := q2
    subst e1; subst e2; cases p1; cases p2
    exact ⟨m, n, rfl, hh, k _ _ F2 _ M2 q (s1.trans s2) r2 wk_range⟩)
/-- the pairs that enumerate gives -/
def enumD (ds : List D) : List D := (List.range ds.length).map fun i => D.tup [.int (i : Nat), ds.getD i .non]
theorem enumD_get {ds : List D} {i : Nat} {d : D} (h : ds[i]? = some d) : (enumD ds)[i]? = some (.tup [.int (i : Nat), d]) := by
  unfold enumD
  have hi := (List.getElem?_eq_some_iff.mp h).1
  rw [List.getElem?_map, List.getElem?_range hi]
  show some (D.tup [.int (i : Nat), ds.getD i .non]) = _
  rw [List.getD_eq_getElem?_getD, h]
  rfl
theorem enumD_len {ds : List D} : (enumD ds).length = ds.length := by simp [enumD]
theorem enumD_at {ds : List D} {i : Nat} {d : D} (h : (enumD ds)[i]? = some d) : ∃ x, ds[i]? = some x ∧ d = .tup [.int (i : Nat), x] := by
  have hi : i < ds.length := by rw [← enumD_len]; exact (List.getElem?_eq_some_iff.mp h).1
  have e : ds[i]? = some ds[i] := by simp
  rw [enumD_get e] at h
  exact ⟨ds[i], e, (Option.some.inj h).symm⟩
/-- a new pair -/
theorem pair_new {K : PySem.W.Frag} {F1 H : Hp} {G : Sl} {M : Mem} {T : Addr} {x y : V} {d e : D} (r : R B K F1 σ H G M) (hT : H T = none) (rx : Rp K F1 x d) (ry : Rp K F1 y e) :
    ∃ F2, Same F1 F2 ∧ R B K F2 σ (upd H T (.tup [x, y])) G M ∧ Rp K F2 (.ref T) (.tup [d, e]) :=
  ⟨upd F1 T (.tup [x, y]), (r.new hT).1, (r.new hT).2, .tup sq_upd (.cons (rx.mono (r.new hT).1) (.cons (ry.mono (r.new hT).1) .nil))⟩
theorem wk_enum {K : PySem.W.Frag} {a : Addr} {xs : List V} {ds : List D} (h : SqL K F a xs) (r : RpAll K F xs ds) : Wk K F (Ite K a) (enumD ds) where
  goes := fun i H hi s => by
    rw [enumD_len] at hi
    exact ⟨xs, xs[i]'(by rw [r.length]; exact hi), s.seq h, by simp [r.length, hi]⟩
  stops := fun H s => ⟨xs, s.seq h, by rw [r.length, enumD_len]; exact Nat.le_refl _⟩
  yields := fun i H x H' hi s y => by
    obtain ⟨T, u, h1, h2, h3, h4⟩ := y
    subst h1; subst h3
    obtain ⟨d, hd, rd⟩ := r.getV (h4 xs (s.seq h))
    exact ⟨_, enumD_get hd, fun B F1 σ G M s1 r1 => pair_new r1 h2 (.int _) (rd.mono s1)⟩
theorem lx_enum (hg : Gl X "enumerate") (hm : X.mg "enumerate" = none) (hs : starEach [e] X.env = [(false, eval e X.env)]) (ht : ∃ es k pp, tg = .Tuple es k pp)
    (h : EX B X e G M fun d M1 => ∃ ds, d = .lst ds ∧ Q (enumD ds) M1) : LX B X tg (.Call (.Name "enumerate" p) [e] [] pos) G M Q := fun F σ H R' r k => by
  obtain ⟨es, kk, pp, rfl⟩ := ht
  refine WIt.of (pi_enum hg hm (pa_cons pe_we pa_nil (by rw [hs]; rfl)) hs) (h F σ H _ r fun v H1 F1 d1 M1 ⟨ds, e1, q⟩ s1 r1 p1 => ?_)
  subst e1
  cases p1 with
  | @lst a xs _ hs rs => exact ⟨a, xs, rfl, r1.ex.seq hs, k _ _ F1 _ M1 q s1 r1 (wk_enum hs rs)⟩
end
end FL

namespace FL
open PySem PySem.Spec PyProof.Rows L2
section
variable {B : Bs} {X : Cx} {a b c e o tg iter elt : Expr} {es : List Expr} {G G' : Sl} {M M' : Mem} {Q : D → Mem → Prop} {E : En} {pos p pos' : Pos} {F F1 : Hp} {σ : L2.St} {st : Stmt} {sts rest body : List Stmt}

/-! ### for -/
theorem sx_for (hp : PassesOwn (model X.prog X.w) X.A X.env X.xe) (hc : X.calm = true) (hs : ∀ x, foldedSetIterable iter X.env x = pure x)
    (h : LX B X tg iter G M fun ds M1 => ∃ I : Nat → Sl → Mem → Prop, I 0 G M1 ∧
      (∀ i d G' M', ds[i]? = some d → I i G' M' → GX B X tg d G' M' fun G2 M2 => SXs B X body (E.lp (I (i + 1))) G2 M2) ∧ ∀ G' M', I ds.length G' M' → E.nx G' M') :
    SX B X (.For tg iter body [] pos) E G M := fun F σ H D' r k =>
  WS.of (ps_for hp hc pi_wi pg_wg pss_wss hs) (h F σ H _ r fun J H1 F1 ds M1 ⟨I, i0, turn, fin⟩ s1 r1 w => by
    refine ⟨fun i m σ' H' => m = ds.length - i ∧ i ≤ ds.length ∧ ∃ F' G' M', Same F1 F' ∧ R B X.K F' σ' H' G' M' ∧ I i G' M', ⟨_, rfl, Nat.zero_le _, F1, G, M1, Same.refl F1, r1, i0⟩, ?_⟩
    rintro i m σ' H' ⟨rfl, hi, F', G', M', s', r', hI⟩
    by_cases hlt : i < ds.length
    · refine .inr ⟨w.goes i H' hlt (s'.trans r'.ex), fun σ2 H2 => ∃ F' G' M', Same F1 F' ∧ R B X.K F' σ2 H2 G' M' ∧ I (i + 1) G' M', fun σ2 H2 z => ⟨ds.length - (i + 1), by omega, rfl, hlt, z⟩, fun x H2 y => ?_⟩
      obtain ⟨d, hd, yy⟩ := w.yields i H' x H2 hlt (s'.trans r'.ex) y
      obtain ⟨F2, s2, r2, p2⟩ := yy B F' σ' G' M' s' r'
      refine turn i d G' M' hd hI F2 σ' H2 _ x r2 p2 fun σ3 H3 F3 G3 M3 q3 s3 r3 => q3 F3 σ3 H3 _ r3 ?_
      have s03 : Same F F3 := s1.trans (s'.trans (s2.trans s3))
      refine ⟨?_, k.rt.mono s03, k.nx.mono s03, ?_⟩
      · exact fun σ4 H4 F4 G4 M4 q4 s4 r4 => ⟨F4, G4, M4, (s'.trans (s2.trans s3)).trans s4, r4, q4⟩
      · exact fun σ4 H4 F4 G4 M4 q4 s4 r4 => ⟨F4, G4, M4, (s'.trans (s2.trans s3)).trans s4, r4, q4⟩
    · have e : i = ds.length := by omega
      subst e
      exact .inl ⟨w.stops H' (s'.trans r'.ex), k.nx σ' H' F' G' M' (fin G' M' hI) (s1.trans s') r'⟩)

/-! ### comprehensions -/
def gwipe (G : Sl) : List Nat → Sl
  | [] => G
  | v :: vs => (gwipe G vs).set v none
theorem R.wipe {K : PySem.W.Frag} {H : Hp} (r : R B K F σ H G M) : ∀ vs : List Nat, R B K F (L2.wipe σ vs) H (gwipe G vs) M
  | [] => r
  | v :: vs => by
    have ih := R.wipe r vs
    exact ⟨ih.slots.setNone, ih.ex, ih.mem, ih.bf, ih.bk⟩
theorem wipe_in {σ : L2.St} {i : Nat} (hl : i < σ.length) : ∀ {vs : List Nat}, i ∈ vs → (L2.wipe σ vs)[i]? = some none
  | [], h => nomatch h
  | v :: vs, h => by
    unfold L2.wipe
    by_cases e : v = i
    · subst e
      rw [List.getElem?_set_self (by rw [wipe_length]; exact hl)]
    · rw [List.getElem?_set_ne e]
      exact wipe_in hl ((List.mem_cons.mp h).resolve_left fun z => e z.symm)
theorem wipe_out' {σ : L2.St} {i : Nat} : ∀ {vs : List Nat}, i ∉ vs → (L2.wipe σ vs)[i]? = σ[i]?
  | [], _ => rfl
  | v :: vs, h => by
    unfold L2.wipe
    rw [List.getElem?_set_ne (fun e => h (by simp [e]))]
    exact wipe_out' fun z => h (List.mem_cons_of_mem _ z)
theorem wipe_eq {σ τ : L2.St} {vs : List Nat} (hl : σ.length = τ.length) (h : ∀ i, i ∉ vs → σ[i]? = τ[i]?) : L2.wipe σ vs = L2.wipe τ vs := by
  apply List.ext_getElem?
  intro i
  by_cases hi : i ∈ vs
  · by_cases hb : i < σ.length
    · rw [wipe_in hb hi, wipe_in (by rw [← hl]; exact hb) hi]
    · rw [List.getElem?_eq_none (by rw [wipe_length]; omega), List.getElem?_eq_none (by rw [wipe_length]; omega)]
  · rw [wipe_out' hi, wipe_out' hi, h i hi]
/-- names to which a comprehension's item goes: one name, or a tuple of names -/
abbrev Tg := Sum Nat (List Nat)
def Tg.slots : Tg → List Nat
  | .inl i => [i]
  | .inr is => is
def gNs : List Nat → TGs
  | [] => gNil
  | i :: r => gCons (gName i) (gNs r)
def gTg (K : PySem.W.Frag) : Tg → TG
  | .inl i => gName i
  | .inr is => gTup K is.length (gNs is)
def setAll (σ : L2.St) : List Nat → List V → L2.St
  | i :: is, v :: vs => setAll (σ.set i (some v)) is vs
  | _, _ => σ
def gsetAll (G : Sl) : List Nat → List D → Sl
  | i :: is, v :: vs => gsetAll (G.set i (some v)) is vs
  | _, _ => G
theorem gNs_of {H : Hp} {Q : L2.St → Hp → Prop} : ∀ {is : List Nat} {vs : List V} {σ : L2.St}, vs.length = is.length → Q (setAll σ is vs) H → gNs is vs σ H Q
  | [], [], _, _, h => ⟨rfl, h⟩
  | [], _ :: _, _, e, _ => by simp at e
  | _ :: _, [], _, e, _ => by simp at e
  | i :: is, v :: vs, σ, e, h => ⟨v, vs, rfl, gNs_of (is := is) (vs := vs) (by simpa using e) h⟩
theorem R.setAll {K : PySem.W.Frag} {F H : Hp} {M : Mem} : ∀ {is : List Nat} {vs : List V} {ds : List D} {σ : L2.St} {G : Sl}, R B K F σ H G M → RpAll K F vs ds → R B K F (FL.setAll σ is vs) H (gsetAll G is ds) M
  | [], _, _, _, _, r, p => by cases p <;> exact r
  | _ :: _, [], _, _, _, r, p => by cases p; exact r
  | i :: is, v :: vs, d :: ds, σ, G, r, .cons p1 p2 => R.setAll (is := is) (vs := vs) (ds := ds) (σ := σ.set i (some v)) (G := G.set i (some d)) (R.set r p1) p2
theorem setAll_len : ∀ {is : List Nat} {vs : List V} {σ : L2.St}, (FL.setAll σ is vs).length = σ.length
  | [], _, _ => by unfold FL.setAll; rfl
  | _ :: _, [], _ => by unfold FL.setAll; rfl
  | i :: is, v :: vs, σ => by
    show (FL.setAll (σ.set i (some v)) is vs).length = σ.length
    rw [setAll_len, List.length_set]
theorem setAll_out {j : Nat} : ∀ {is : List Nat} {vs : List V} {σ : L2.St}, j ∉ is → (FL.setAll σ is vs)[j]? = σ[j]?
  | [], _, _, _ => by unfold FL.setAll; rfl
  | _ :: _, [], _, _ => by unfold FL.setAll; rfl
  | i :: is, v :: vs, σ, h => by
    show (FL.setAll (σ.set i (some v)) is vs)[j]? = σ[j]?
    rw [setAll_out (fun z => h (List.mem_cons_of_mem _ z)), List.getElem?_set_ne (fun e => h (by simp [e]))]
theorem wipe_setAll {σ : L2.St} {is : List Nat} {vs : List V} {own : List Nat} (h : ∀ i ∈ is, i ∈ own) : L2.wipe (FL.setAll (L2.wipe σ own) is vs) own = L2.wipe σ own := by
  refine wipe_eq (by rw [setAll_len, wipe_length]) fun i hi => ?_
  rw [setAll_out fun z => hi (h i z), wipe_out' hi]
/-- a clause's tests: none, or one -/
def TXs (B : Bs) (X : Cx) (ifs : List Expr) (G : Sl) (M : Mem) (Q : Bool → Mem → Prop) : Prop := match ifs with
  | [] => Q true M
  | [c] => TX B X c G M Q
  | _ => False
def WTs (X : Cx) (ifs : List Expr) : TT := fun σ H Q => ∀ (pins : List (Addr × Obj)) (s : Shared), Inv X pins σ H s →
  wpAny (model X.prog X.w) X.A (forIn ifs true fun c r => if r = true then do let ok ← isTrue c X.env (eval c X.env); pure (ForInStep.yield ok) else pure (ForInStep.yield r)) (TP X pins σ Q) X.xe s
theorem txs_ok {ifs : List Expr} {H : Hp} {Q : Bool → Mem → Prop} {Q' : Bool → Hp → Prop} (h : TXs B X ifs G M Q) (r : R B X.K F σ H G M) (k : KT B X F σ G Q Q') : WTs X ifs σ H Q' := by
  match ifs, h with
  | [], h => exact fun pins s I => pts_nil.run pins s σ H Q' I (k true H F M h (Same.refl F) r)
  | [c], h => exact fun pins s I => (pts_one pt_wt).run pins s σ H Q' I (h F σ H Q' r k)
/-- in every context of the block -/
abbrev Bk (X : Cx) (scope : Scope) (P : Cx → Prop) : Prop := ∀ (s : Shared) (H : Hp) (C : Addr) (cl : List (Str × Addr)) (fp : List Addr), P (X.blk s H scope (compEnvC scope cl C X.env) fp)
def WTb (X : Cx) (scope : Scope) (ifs : List Expr) : TT := fun σ H Q => Bk X scope fun X' => WTs X' ifs σ H Q
def WEb (X : Cx) (scope : Scope) (e : Expr) : TE := fun σ H Q => Bk X scope fun X' => WE X' e σ H Q
theorem pts_wtb {scope : Scope} {ifs : List Expr} : Bk X scope fun X' => PTs X' ifs (WTb X scope ifs) := fun s0 H0 C cl fp => ⟨fun pins s _ _ _ I h => h s0 H0 C cl fp pins s I⟩
theorem pe_web {scope : Scope} : Bk X scope fun X' => PE X' e (WEb X scope e) := fun s0 H0 C cl fp => ⟨fun pins s _ _ _ I h => h s0 H0 C cl fp pins s I⟩
/-- an item of data, for the target -/
def TgD (t : Tg) (d : D) (Q : List D → Prop) : Prop := match t with
  | .inl _ => Q [d]
  | .inr is => ∃ ds, d = .tup ds ∧ ds.length = is.length ∧ Q ds
/-- what a comprehension asks: L the new list; I by the turn, what is gathered, and the cells -/
def LcX (B : Bs) (X : Cx) (scope : Scope) (own : List Nat) (t : Tg) (ifs : List Expr) (elt : Expr) (G : Sl) (ds : List D) (M1 : Mem) (fin : Addr → List D → Mem → Prop) : Prop :=
  ∀ L, M1 L = none → ∃ I : Nat → List D → Mem → Prop, I 0 [] (mupd M1 L (.lst [])) ∧
    (∀ i d acc M', ds[i]? = some d → I i acc M' → M' L = some (.lst acc) → TgD t d fun dvs => Bk X scope fun X' => TXs B X' ifs (gsetAll (gwipe G own) t.slots dvs) M' fun b M3 =>
      if b = true then Bk X scope fun X2 => EX B X2 elt (gsetAll (gwipe G own) t.slots dvs) M3 fun y M4 => M4 L = some (.lst acc) ∧ acc.length < sizeLine ∧ I (i + 1) (acc ++ [y]) (mupd M4 L (.lst (acc ++ [y])))
      else M3 L = some (.lst acc) ∧ I (i + 1) acc M3) ∧
    ∀ acc M', I ds.length acc M' → M' L = some (.lst acc) → fin L acc M'
theorem lc_data {scope : Scope} {own : List (Str × Nat)} {t : Tg} {ifs : List Expr} {fin : Addr → List D → Mem → Prop} {Q' : VK} {H : Hp} (ht : ∀ i ∈ t.slots, i ∈ own.map (·.2)) (r : R B X.K F σ H G M)
    (h : LX B X tg iter G M fun ds M1 => LcX B X scope (own.map (·.2)) t ifs elt G ds M1 fin)
    (k : ∀ L acc H' F' M', fin L acc M' → M' L = some (.lst acc) → Same F F' → R B X.K F' σ H' G M' → Q' (.ref L) H') :
    tLc (WIt X tg iter) (gTg X.K t) (WTb X scope ifs) (WEb X scope elt) (own.map (·.2)) σ H Q' := by
  refine h F σ H _ r fun J H1 F1 ds M1 lc s1 r1 w => ?_
  intro L hL
  obtain ⟨I, i0, turn, fn⟩ := lc L (r1.freeM hL)
  refine ⟨fun i m H' => m = ds.length - i ∧ i ≤ ds.length ∧ ∃ F' acc M', Same F1 F' ∧ R B X.K F' σ H' G M' ∧ M' L = some (.lst acc) ∧ I i acc M', ⟨_, rfl, Nat.zero_le _, F1, [], _, Same.refl F1, r1.newCell (o := .lst []) hL ⟨[], upd_same, .nil⟩, mupd_same, i0⟩, ?_⟩
  rintro i m H' ⟨rfl, hi, F', acc, M', s', r', hM, hI⟩
  by_cases hlt : i < ds.length
  · refine .inr ⟨w.goes i H' hlt (s'.trans r'.ex), fun H2 => ∃ F' acc M', Same F1 F' ∧ R B X.K F' σ H2 G M' ∧ M' L = some (.lst acc) ∧ I (i + 1) acc M', fun H2 z => ⟨ds.length - (i + 1), by omega, rfl, hlt, z⟩, fun x H2 y => ?_⟩
    obtain ⟨d, hd, yy⟩ := w.yields i H' x H2 hlt (s'.trans r'.ex) y
    obtain ⟨F2, s2, r2, p2⟩ := yy B F' σ G M' s' r'
    have tt := turn i d acc M' hd hI hM
    have main : ∀ (vs : List V) (dvs : List D), RpAll X.K F2 vs dvs → (Bk X scope fun X' => TXs B X' ifs (gsetAll (gwipe G (own.map (·.2))) t.slots dvs) M' fun b M3 =>
        if b = true then Bk X scope fun X2 => EX B X2 elt (gsetAll (gwipe G (own.map (·.2))) t.slots dvs) M3 fun y M4 => M4 L = some (.lst acc) ∧ acc.length < sizeLine ∧ I (i + 1) (acc ++ [y]) (mupd M4 L (.lst (acc ++ [y])))
        else M3 L = some (.lst acc) ∧ I (i + 1) acc M3) →
        L2.wipe (FL.setAll (L2.wipe σ (own.map (·.2))) t.slots vs) (own.map (·.2)) = L2.wipe σ (own.map (·.2)) ∧ WTb X scope ifs (FL.setAll (L2.wipe σ (own.map (·.2))) t.slots vs) H2 fun b H3 =>
          if b = true then WEb X scope elt (FL.setAll (L2.wipe σ (own.map (·.2))) t.slots vs) H3 fun y H4 => ∃ acc, H4 L = some (.lst acc) ∧ acc.length < sizeLine ∧ (∃ F' acc' M', Same F1 F' ∧ R B X.K F' σ (upd H4 L (.lst (acc ++ [y]))) G M' ∧ M' L = some (.lst acc') ∧ I (i + 1) acc' M')
          else ∃ F' acc M', Same F1 F' ∧ R B X.K F' σ H3 G M' ∧ M' L = some (.lst acc) ∧ I (i + 1) acc M' := by
      intro vs dvs pv hb
      refine ⟨wipe_setAll ht, fun s0 H0 C cl fp => ?_⟩
      have rw0 : R B X.K F2 (FL.setAll (L2.wipe σ (own.map (·.2))) t.slots vs) H2 (gsetAll (gwipe G (own.map (·.2))) t.slots dvs) M' := R.setAll (R.wipe r2 (own.map (·.2))) pv
      refine txs_ok (X := X.blk s0 H0 scope (compEnvC scope cl C X.env) fp) (hb s0 H0 C cl fp) rw0 fun b H3 F3 M3 q3 s3 r3 => ?_
      have back : ∀ {Hx Fx : Hp} {Mx : Mem}, Same F2 Fx → R B X.K Fx (FL.setAll (L2.wipe σ (own.map (·.2))) t.slots vs) Hx (gsetAll (gwipe G (own.map (·.2))) t.slots dvs) Mx → R B X.K Fx σ Hx G Mx := fun sx rx => ⟨r2.slots.mono sx, rx.ex, rx.mem, rx.bf, rx.bk⟩
      cases b with
      | true =>
        rw [if_pos rfl] at q3 ⊢
        intro s5 H5 C5 cl5 fp5
        refine q3 s5 H5 C5 cl5 fp5 F3 _ H3 _ r3 fun y H4 F4 d4 M4 ⟨m4, l4, i4⟩ s4 r4 p4 => ?_
        obtain ⟨_, xs, hx, rx⟩ := r4.mem L _ m4
        refine ⟨xs, hx, by rw [rx.length]; exact l4, F4, acc ++ [d4], _, ((s'.trans s2).trans s3).trans s4, ?_, mupd_same, i4⟩
        exact (back (s3.trans s4) r4).write m4 ⟨_, upd_same, rx.append (.cons p4 .nil)⟩
      | false =>
        rw [if_neg Bool.false_ne_true] at q3 ⊢
        exact ⟨F3, acc, M3, (s'.trans s2).trans s3, back s3 r3, q3.1, q3.2⟩
    cases t with
    | inl j => exact main [x] [d] (.cons p2 .nil) tt
    | inr js =>
      obtain ⟨dvs, e, hl, hb⟩ := tt
      subst e
      cases p2 with
      | @tup a xs _ hq ra => exact ⟨a, xs, rfl, sq_same r2.ex hq, by rw [ra.length, hl], gNs_of (by rw [ra.length, hl]) (main xs dvs ra hb)⟩
  · have e : i = ds.length := by omega
    subst e
    exact .inl ⟨w.stops H' (s'.trans r'.ex), k L acc H' F' M' (fn acc M' hI hM) hM (s1.trans s') r'⟩

theorem pg_tg1 {X' : Cx} {x : Str} {i : Nat} (h : Lc X' i x) : PG X' (.Name x pos) (gTg X'.K (.inl i)) := pg_name h.nd h.n h.l h.f
/-- a comprehension, its list frozen -/
theorem ex_lc {scope : Scope} {own : List (Str × Nat)} {t : Tg} {ifs : List Expr} (hc : X.calm = true) (hN : X.N.Nodup) (ok : BlkOk X.N X.env.scope scope own) (ht : ∀ i ∈ t.slots, i ∈ own.map (·.2))
    (hg : Bk X scope fun X' => PG X' tg (gTg X.K t)) (hs : ∀ x, foldedSetIterable iter X.env x = pure x)
    (h : LX B X tg iter G M fun ds M1 => LcX B X scope (own.map (·.2)) t ifs elt G ds M1 fun L acc M' => Q (.lst acc) (mdel M' L)) : EX B X (.ListComp elt [⟨tg, iter, ifs, 0⟩] scope pos) G M Q := fun F σ H Q' r k =>
  WE.of (pe_lc hc hN pi_wi ok hg pts_wtb pe_web hs) (lc_data ht r h fun L acc H' F' M' q hm s' r' => by
    obtain ⟨F2, s2, r2, p2⟩ := r'.freeze hm
    exact k _ H' F2 _ _ q (s'.trans s2) r2 p2)
/-- .. its list a cell -/
theorem ex_lcM {scope : Scope} {own : List (Str × Nat)} {t : Tg} {ifs : List Expr} (hc : X.calm = true) (hN : X.N.Nodup) (ok : BlkOk X.N X.env.scope scope own) (ht : ∀ i ∈ t.slots, i ∈ own.map (·.2))
    (hg : Bk X scope fun X' => PG X' tg (gTg X.K t)) (hs : ∀ x, foldedSetIterable iter X.env x = pure x)
    (h : LX B X tg iter G M fun ds M1 => LcX B X scope (own.map (·.2)) t ifs elt G ds M1 fun L acc M' => Q (.ref L) M') : EX B X (.ListComp elt [⟨tg, iter, ifs, 0⟩] scope pos) G M Q := fun F σ H Q' r k =>
  WE.of (pe_lc hc hN pi_wi ok hg pts_wtb pe_web hs) (lc_data ht r h fun L acc H' F' M' q hm s' r' => k _ H' F' _ _ q s' r' (.ref L))
/-- name = a comprehension -/
theorem sx_setLc {i : Nat} {y : Str} {py spos : Pos} {scope : Scope} {own : List (Str × Nat)} {t : Tg} {ifs : List Expr} (hc : X.calm = true) (hN : X.N.Nodup) (hy : X.N[i]? = some y) (hyl : X.env.scope.names.lookup y = some .local)
    (hsw : swapsWith (.ListComp elt [⟨tg, iter, ifs, 0⟩] scope pos) (some (.Name y py)) spos.line X.env = pure true) (ok : BlkOk X.N X.env.scope scope own) (ht : ∀ i ∈ t.slots, i ∈ own.map (·.2))
    (hg : Bk X scope fun X' => PG X' tg (gTg X.K t)) (hs : ∀ x, foldedSetIterable iter X.env x = pure x)
    (h : LX B X tg iter G M fun ds M1 => LcX B X scope (own.map (·.2)) t ifs elt G ds M1 fun L acc M' => E.nx (G.set i (some (.lst acc))) (mdel M' L)) : SX B X (.Assign [.Name y py] (.ListComp elt [⟨tg, iter, ifs, 0⟩] scope pos) spos) E G M := fun F σ H D' r k =>
  WS.of (ps_setLc hc hN hy hyl hsw pi_wi ok hg pts_wtb pe_web hs) (lc_data ht r h fun L acc H' F' M' q hm s' r' => by
    obtain ⟨F2, s2, r2, p2⟩ := r'.freeze hm
    exact k.nx _ H' F2 _ _ q (s'.trans s2) (R.set r2 p2))
theorem sx_setLcM {i : Nat} {y : Str} {py spos : Pos} {scope : Scope} {own : List (Str × Nat)} {t : Tg} {ifs : List Expr} (hc : X.calm = true) (hN : X.N.Nodup) (hy : X.N[i]? = some y) (hyl : X.env.scope.names.lookup y = some .local)
    (hsw : swapsWith (.ListComp elt [⟨tg, iter, ifs, 0⟩] scope pos) (some (.Name y py)) spos.line X.env = pure true) (ok : BlkOk X.N X.env.scope scope own) (ht : ∀ i ∈ t.slots, i ∈ own.map (·.2))
    (hg : Bk X scope fun X' => PG X' tg (gTg X.K t)) (hs : ∀ x, foldedSetIterable iter X.env x = pure x)
    (h : LX B X tg iter G M fun ds M1 => LcX B X scope (own.map (·.2)) t ifs elt G ds M1 fun L acc M' => E.nx (G.set i (some (.ref L))) M') : SX B X (.Assign [.Name y py] (.ListComp elt [⟨tg, iter, ifs, 0⟩] scope pos) spos) E G M := fun F σ H D' r k =>
  WS.of (ps_setLc hc hN hy hyl hsw pi_wi ok hg pts_wtb pe_web hs) (lc_data ht r h fun L acc H' F' M' q hm s' r' => k.nx _ H' F' _ _ q s' (R.set r' (.ref L)))
/-- a comprehension that changes no cell: f tells what an item comes to -/
theorem lc_pure {scope : Scope} {own : List Nat} {t : Tg} {ifs : List Expr} {ds : List D} {fin : List D → Mem → Prop} (f : D → Option D) (hl : ds.length < sizeLine)
    (h : ∀ (i : Nat) (d : D) (M' : Mem), ds[i]? = some d → (∀ a o, M a = some o → M' a = some o) → TgD t d fun dvs => Bk X scope fun X' => TXs B X' ifs (gsetAll (gwipe G own) t.slots dvs) M' fun b M3 =>
      if b = true then Bk X scope fun X2 => EX B X2 elt (gsetAll (gwipe G own) t.slots dvs) M3 fun y M4 => M4 = M' ∧ f d = some y else M3 = M' ∧ f d = none)
    (q : fin (ds.filterMap f) M) : LcX B X scope own t ifs elt G ds M fun L acc M' => fin acc (mdel M' L) := by
  intro L hL
  refine ⟨fun i acc M' => acc = (ds.take i).filterMap f ∧ M' = mupd M L (.lst acc), ⟨rfl, rfl⟩, ?_, ?_⟩
  · rintro i d acc M' hd ⟨ea, eM⟩ hM
    have hle : ∀ a o, M a = some o → M' a = some o := fun a o e => by rw [eM, mupd_ne (mne e hL)]; exact e
    have tk : (ds.take (i + 1)).filterMap f = (ds.take i).filterMap f ++ (f d).toList := by
      rw [List.take_add_one, hd, List.filterMap_append]
      cases e : f d <;> simp [e]
    have ln : acc.length < sizeLine := by
      have h1 : ((ds.take i).filterMap f).length ≤ (ds.take i).length := List.length_filterMap_le f _
      have h2 : (ds.take i).length ≤ ds.length := by rw [List.length_take]; omega
      rw [ea]; omega
    have step : ∀ dvs, (Bk X scope fun X' => TXs B X' ifs (gsetAll (gwipe G own) t.slots dvs) M' fun b M3 =>
        if b = true then Bk X scope fun X2 => EX B X2 elt (gsetAll (gwipe G own) t.slots dvs) M3 fun y M4 => M4 = M' ∧ f d = some y else M3 = M' ∧ f d = none) →
        Bk X scope fun X' => TXs B X' ifs (gsetAll (gwipe G own) t.slots dvs) M' fun b M3 =>
          if b = true then Bk X scope fun X2 => EX B X2 elt (gsetAll (gwipe G own) t.slots dvs) M3 fun y M4 => M4 L = some (.lst acc) ∧ acc.length < sizeLine ∧ (acc ++ [y] = (ds.take (i + 1)).filterMap f ∧ mupd M4 L (.lst (acc ++ [y])) = mupd M L (.lst (acc ++ [y])))
          else M3 L = some (.lst acc) ∧ (acc = (ds.take (i + 1)).filterMap f ∧ M3 = mupd M L (.lst acc)) := by
      intro dvs hb s0 H0 C cl fp
      have post : ∀ (b : Bool) (M3 : Mem), (if b = true then Bk X scope fun X2 => EX B X2 elt (gsetAll (gwipe G own) t.slots dvs) M3 fun y M4 => M4 = M' ∧ f d = some y else M3 = M' ∧ f d = none) →
          if b = true then Bk X scope fun X2 => EX B X2 elt (gsetAll (gwipe G own) t.slots dvs) M3 fun y M4 => M4 L = some (.lst acc) ∧ acc.length < sizeLine ∧ (acc ++ [y] = (ds.take (i + 1)).filterMap f ∧ mupd M4 L (.lst (acc ++ [y])) = mupd M L (.lst (acc ++ [y])))
          else M3 L = some (.lst acc) ∧ (acc = (ds.take (i + 1)).filterMap f ∧ M3 = mupd M L (.lst acc)) := fun b M3 z =>
        ite_mono z (fun z s1 H1 C1 cl1 fp1 => (z s1 H1 C1 cl1 fp1).imp fun y M4 ⟨e4, ef⟩ => by
          subst e4
          refine ⟨hM, ln, ?_, ?_⟩
          · rw [tk, ef, ← ea]; rfl
          · rw [eM, mupd_mupd]) fun ⟨e3, ef⟩ => by
          subst e3
          refine ⟨hM, ?_, eM⟩
          rw [tk, ef, ← ea]; simp
      have z := hb s0 H0 C cl fp
      match ifs, z with
      | [], z => exact post true M' z
      | [c], z => exact TX.imp z post
    have hh := h i d M' hd hle
    cases t with
    | inl j => exact step [d] hh
    | inr js =>
      obtain ⟨dvs, e, hl', hb⟩ := hh
      exact ⟨dvs, e, hl', step dvs hb⟩
  · rintro acc M' ⟨ea, eM⟩ hM
    rw [List.take_length] at ea
    rw [eM, mdel_mupd hL, ea]
    exact q
end
end FL

namespace FL
open PySem PySem.Spec PyProof.Rows L2

/-- a promise over data: arguments, cells, what is wanted of the answer and the cells -/
abbrev DSp := List D → Mem → (D → Mem → Prop) → Prop
def lift (K : PySem.W.Frag) (sp : DSp) : Sp := fun vs H Q _ => ∃ F ds M Qd, RpAll K F vs ds ∧ Same F H ∧ MemOk K F H M ∧ sp ds M Qd ∧ ∀ d M', Qd d M' → ∀ v H' F', Same F F' → Kp M H M' H' → Same F' H' → MemOk K F' H' M' → Rp K F' v d → Q v H'
/-- a def of the module, by its name -/
structure Dfn (P : Program) (w : World) (K : PySem.W.Frag) (mg : Str → Option Value) (base : Heap) (k : Nat) (x : Str) (sp : DSp) : Prop where
  ex : ∃ (f : Addr) (fd : FuncData) (ps : List Str), FnOk P w K mg base CX0 k f fd ps (lift K sp) ∧ mg x = some (.ref f) ∧ PySem.W.keepIn K (.ref f) = true ∧ Binds K fd ps []
section
variable {B : Bs} {X : Cx} {a b c e o tg iter elt : Expr} {es : List Expr} {G G' : Sl} {M M' : Mem} {Q : D → Mem → Prop} {E : En} {pos p pos' apos : Pos} {F F1 : Hp} {σ : L2.St} {k : Nat} {x m : Str} {sp : DSp}
theorem lift_use {H1 : Hp} {vs : List V} {ds : List D} {Q' : VK} {E0' : XK} (r1 : R B X.K F1 σ H1 G M) (p1 : RpAll X.K F1 vs ds) (q : sp ds M Q) (kk : KE B X F1 σ G Q Q') : lift X.K sp vs H1 Q' E0' :=
  ⟨F1, ds, M, Q, p1, r1.ex, r1.mem, q, fun d M' qd v H' F' s' k' e' m' rp => kk v H' F' d M' qd s' ⟨r1.slots.mono s', e', m', r1.bf.trans s', r1.bk.trans k'⟩ rp⟩
theorem ex_call (c : Dfn X.prog X.w X.K X.mg X.base k x sp) (hr : Room k X.A) (hg : Gl X x) (hdb : (x == ("__debug__" : Str)) = false)
    (he : starEach (e :: es) X.env = (false, eval e X.env) :: starEach es X.env) (hpl : (backTo pos (starEach es X.env)).any (·.1) = false)
    (h : AX B X (e :: es) G M fun ds M1 => sp ds M1 Q) : EX B X (.Call (.Name x p) (e :: es) [] pos) G M Q := fun F σ H Q' r kk => by
  obtain ⟨f, fd, ps, Fo, mgx, kp, bd⟩ := c.ex
  refine WE.of (pe_call Fo hr hg mgx kp bd .nil pass0 pa_wa hdb he hpl) (h F σ H _ r fun vs H1 F1 ds M1 q1 s1 r1 p1 => ?_)
  rw [List.append_nil]
  exact lift_use r1 p1 q1 (kk.mono s1)
theorem ex_call0 (c : Dfn X.prog X.w X.K X.mg X.base k x sp) (hr : Room k X.A) (hg : Gl X x) (hdb : (x == ("__debug__" : Str)) = false)
    (h : sp [] M Q) : EX B X (.Call (.Name x p) [] [] pos) G M Q := fun F σ H Q' r kk => by
  obtain ⟨f, fd, ps, Fo, mgx, kp, bd⟩ := c.ex
  exact WE.of (pe_call0 Fo hr hg mgx kp bd .nil pass0 hdb) (lift_use (vs := [] ++ []) (E0' := E0) r .nil h kk)

/-! ### a def's body -/
def startD (N : List Str) (ds : List D) : Sl := ds.map some ++ List.replicate (N.length - ds.length) none
theorem start_ok {K : PySem.W.Frag} {N : List Str} {vs : List V} {ds : List D} (h : RpAll K F vs ds) : SlotsOk K F (L2.start N vs) (startD N ds) := by
  refine ⟨by unfold L2.start startD; simp [h.length], fun i d q => ?_⟩
  unfold startD at q
  unfold L2.start
  by_cases hi : i < ds.length
  · rw [List.getElem?_append_left (by simpa using hi), List.getElem?_map] at q
    rw [List.getElem?_append_left (by simpa [h.length] using hi), List.getElem?_map]
    cases e : ds[i]? with
    | none => rw [e] at q; cases q
    | some d' =>
      rw [e] at q
      have e2 : d' = d := by simpa using q
      subst e2
      obtain ⟨v, hv, rv⟩ := h.get e
      exact ⟨v, by rw [hv]; rfl, rv⟩
  · rw [List.getElem?_append_right (by simpa using hi)] at q
    rw [List.getElem?_replicate] at q
    split at q <;> cases q
theorem fun_ok {P : Program} {w : World} {K : PySem.W.Frag} {mg : Str → Option Value} {base : Heap} {x qual : Str} {st : Stmt} {f : Addr} {fd : FuncData} {N ps : List Str} {k : Nat} {sp : DSp} (Fn : Fun K x qual st f fd) (S : FnScope N ps (defScope st))
    (len : ∀ ds M Q, sp ds M Q → ds.length = ps.length)
    (body : ∀ (cdv : Value) (A : Around) (outer : List Env) (s : Shared) (H : Hp) (E : XK), Room k (A.deeper (envOfC qual (defScope st) s.heap.objs.size f cdv)) → ∀ ds M Q, sp ds M Q → ∀ B : Bs,
      SXs B (cxOf CX0 P w K mg base N qual (defScope st) f cdv A outer s H E).nox (defBody st) (En.df Q) (startD N ds) M) : FnOk P w K mg base CX0 (k + 1) f fd ps (lift K sp) := by
  refine Fn.ok S (fun vs H Q E ⟨F, ds, M, Qd, p, _, _, h, _⟩ => by rw [p.length]; exact len ds M Qd h) fun cdv A outer s H vs Q E hr ⟨F, ds, M, Qd, p, ex, me, h, kk⟩ => ?_
  refine ⟨_, pss_wss, body cdv A outer s H E hr ds M Qd h ⟨F, M, H⟩ F _ H _ ⟨start_ok p, ex, me, Same.refl F, Kp.refl M H⟩ ⟨?_, ?_, ?_, ?_⟩⟩
  · exact fun σ' H' F' G' M' q s' r' => kk .non M' q .non H' F' s' r'.bk r'.ex r'.mem .non
  · exact fun v H' F' d M' q s' ⟨_, _, r'⟩ rp => kk d M' q v H' F' s' r'.bk r'.ex r'.mem rp
  · exact fun _ _ _ _ _ q => False.elim q
  · exact fun _ _ _ _ _ q => False.elim q

/-! ### built-ins by name -/
/-- a built-in function or class, by its name -/
structure Blt (X : Cx) (x : Str) (f : Value) : Prop where
  g : Gl X x
  m : X.mg x = none
  v : bootBuiltins x = some f
  n : x ≠ "__name__"
  d : (x == ("__debug__" : Str)) = false
theorem ex_callB {id : String} (c : Blt X x (.builtin id)) (he : starEach (e :: es) X.env = (false, eval e X.env) :: starEach es X.env) (hpl : (backTo pos (starEach es X.env)).any (·.1) = false)
    (h : AX B X (e :: es) G M fun ds M1 => BX B X (.builtin id) ds G M1 Q) : EX B X (.Call (.Name x p) (e :: es) [] pos) G M Q := fun F σ H Q' r kk =>
  WE.of (pe_callB call_wc c.g c.m c.v pa_wa c.n c.d he hpl) (h F σ H _ r fun vs H1 F1 ds M1 q1 s1 r1 p1 => q1 F1 σ H1 Q' vs r1 p1 (kk.mono s1))
theorem ex_callTy {T : String} (c : Blt X x (.type T)) (he : starEach (e :: es) X.env = (false, eval e X.env) :: starEach es X.env) (hpl : (backTo pos (starEach es X.env)).any (·.1) = false)
    (h : AX B X (e :: es) G M fun ds M1 => BX B X (.type T) ds G M1 Q) : EX B X (.Call (.Name x p) (e :: es) [] pos) G M Q := fun F σ H Q' r kk =>
  WE.of (pe_callTy call_wc c.g c.m c.v pa_wa c.n c.d he hpl) (h F σ H _ r fun vs H1 F1 ds M1 q1 s1 r1 p1 => q1 F1 σ H1 Q' vs r1 p1 (kk.mono s1))
/-- a built-in as a value -/
theorem ex_ty {T : String} (c : Blt X x (.type T)) (q : Q (.ty T) M) : EX B X (.Name x pos) G M Q := fun F σ H Q' r kk =>
  WE.of (pe_bltn c.g c.m c.v (v := .ty T) rfl c.n c.d) (kk.at r q (.ty T))
theorem rp1 {K : PySem.W.Frag} {vs : List V} {d : D} (h : RpAll K F vs [d]) : ∃ v, vs = [v] ∧ Rp K F v d := by
  cases h with
  | cons p t => cases t; exact ⟨_, rfl, p⟩
theorem rp2 {K : PySem.W.Frag} {vs : List V} {d d2 : D} (h : RpAll K F vs [d, d2]) : ∃ v v2, vs = [v, v2] ∧ Rp K F v d ∧ Rp K F v2 d2 := by
  cases h with
  | cons p t =>
    obtain ⟨v, e, q⟩ := rp1 t
    subst e
    exact ⟨_, v, rfl, p, q⟩
theorem bx_lenL {ds : List D} (q : Q (.int (ds.length : Nat)) M) : BX B X (.builtin "len") [.lst ds] G M Q := fun F σ H Q' vs r pa kk => by
  obtain ⟨v, rfl, rp⟩ := rp1 pa
  cases rp with
  | @lst a xs _ hs rs => exact WC.of call_len_seq ⟨a, xs, rfl, .inl (r.ex.seq hs), by rw [rs.length]; exact kk.at r q (.int _)⟩
theorem bx_lenT {ds : List D} (q : Q (.int (ds.length : Nat)) M) : BX B X (.builtin "len") [.tup ds] G M Q := fun F σ H Q' vs r pa kk => by
  obtain ⟨v, rfl, rp⟩ := rp1 pa
  cases rp with
  | @tup a xs _ hs rs => exact WC.of call_len_seq ⟨a, xs, rfl, .inr (sq_same r.ex hs), by rw [rs.length]; exact kk.at r q (.int _)⟩
theorem bx_lenC {l : Addr} {ds : List D} (hm : M l = some (.lst ds)) (q : Q (.int (ds.length : Nat)) M) : BX B X (.builtin "len") [.ref l] G M Q := fun F σ H Q' vs r pa kk => by
  obtain ⟨v, rfl, rp⟩ := rp1 pa
  cases rp
  obtain ⟨_, xs, hx, rx⟩ := r.mem l _ hm
  exact WC.of call_len_seq ⟨l, xs, rfl, .inl (.inl (.inl hx)), by rw [rx.length]; exact kk.at r q (.int _)⟩
theorem bx_lenS {z : Str} (hl : z.length ≤ sizeLine) (q : Q (.int (z.length : Nat)) M) : BX B X (.builtin "len") [.str z] G M Q := fun F σ H Q' vs r pa kk => by
  obtain ⟨v, rfl, rp⟩ := rp1 pa
  cases rp
  exact WC.of call_len_str ⟨z, rfl, hl, kk.at r q (.int _)⟩
/-- the built-in type of data -/
def D.tyN : D → String
  | .non => "NoneType" | .bl _ => "bool" | .int _ => "int" | .str _ => "str" | .tup _ => "tuple" | .lst _ => "list" | .dK _ => "dict" | .dT _ => "dict" | .ty _ => "type" | .ref _ => "object"
def D.tyd : D → Bool
  | .ty _ => false | .ref _ => false | _ => true
theorem Rp.tyx {K : PySem.W.Frag} {F H : Hp} {v : V} {d : D} (e : Same F H) (r : Rp K F v d) (h : d.tyd = true) : TyX K H v (.type d.tyN) := by
  cases r with
  | non => exact .base .non
  | bl b => exact .base (.bl b)
  | int i => exact .base (.int i)
  | str x => exact .base (.str x)
  | ref a => cases h
  | ty n => cases h
  | tup hs _ =>
    rcases hs with (hs | ⟨ob, hs⟩) | ⟨ob, _, _, hk, hc, _⟩
    · exact .base (.tup (e _ _ hs))
    · exact .fTuple (e _ _ hs)
    · exact .kTuple hk hc
  | lst hs _ =>
    rcases hs with (hs | ⟨ob, hs⟩) | ⟨ob, _, _, hk, hc, _⟩
    · exact .base (.lst (e _ _ hs))
    · exact .base (.frz (e _ _ hs))
    · exact .kList hk hc
  | dK hs _ => exact .base (.dK (e _ _ hs))
  | dT hs _ => exact .base (.dT (e _ _ hs))
theorem bx_isi {d : D} {T : String} {b : Bool} (hd : d.tyd = true) (hk : kitB d.tyN T = some b) (q : Q (.bl b) M) : BX B X (.builtin "isinstance") [d, .ty T] G M Q := fun F σ H Q' vs r pa kk => by
  obtain ⟨v, v2, rfl, rp, r2⟩ := rp2 pa
  cases r2
  exact WC.of call_isi ⟨v, .ty T, _, _, b, rfl, .ty T, rp.tyx r.ex hd, kit_ty hk, kk.at r q (.bl b)⟩
/-- the classes of a tuple -/
def tyNs : List D → Option (List String)
  | [] => some []
  | .ty T :: r => (tyNs r).map (T :: ·)
  | _ => none
def kitBs (a : String) : List String → Option Bool
  | [] => some false
  | T :: r => match kitB a T with
    | some true => some true
    | some false => kitBs a r
    | none => none
theorem tyNs_cls {K : PySem.W.Frag} : ∀ {ds : List D} {vs : List V} {Ts : List String}, tyNs ds = some Ts → RpAll K F vs ds → Paired ClsV vs (Ts.map Value.type)
  | [], _, Ts, h, p => by cases p; cases h; exact .nil
  | .ty T :: ds, _, Ts, h, .cons p r => by
    cases p
    unfold tyNs at h
    cases e : tyNs ds with
    | none => rw [e] at h; cases h
    | some Us =>
      rw [e] at h
      cases h
      exact .cons (.ty T) (tyNs_cls e r)
theorem kitBs_any {K : PySem.W.Frag} {a : String} {b : Bool} : ∀ {Ts : List String}, kitBs a Ts = some b → PySem.W.kitAny K (.type a) (Ts.map Value.type) = some b
  | [], h => by cases h; exact kitAny_nil
  | T :: Ts, h => by
    unfold kitBs at h
    split at h
    · rename_i e
      cases h
      exact kitAny_cons (kit_ty e) (fun z => nomatch z) (fun _ => rfl)
    · rename_i e
      exact kitAny_cons (kit_ty e) (fun _ => kitBs_any h) (fun z => nomatch z)
    · cases h
theorem call_isiS : CallR X (.builtin "isinstance") (fun xs H Q => ∃ (x : V) (tp : Addr) (cs : List V) (t : Value) (us : List Value) (b : Bool), xs = [x, .ref tp] ∧ SqT X.K H tp cs ∧ Paired ClsV cs us ∧ TyX X.K H x t ∧ PySem.W.kitAny X.K t us = some b ∧ Q (.bl b) H) := by
  intro pins s σ H xs us Q I r h
  obtain ⟨x, tp, cs, t, ws, b, rfl, hT, k, ty, e, q⟩ := h
  obtain ⟨u1, u2, rfl, r1, r2⟩ := vals2 r
  cases (show u2 = Value.ref tp from r2)
  obtain ⟨P, Z, p, hx⟩ := kit_of I r1 ty
  obtain ⟨its, rv, ⟨o, h1, h2, n, h3⟩, _⟩ := I.tuple hT
  have e3 := ClsV.all k rv
  subst e3
  obtain ⟨oc, od, dt, sl⟩ := o
  simp only at h2 h3
  subst h2 h3
  exact PySem.W.kia_tup Z I.kIn p h1 e hx fun tk => ⟨.bl b, H, I.tok tk, rfl, q⟩
theorem bx_isiT {d : D} {ts : List D} {Ts : List String} {b : Bool} (hd : d.tyd = true) (ht : tyNs ts = some Ts) (hk : kitBs d.tyN Ts = some b) (q : Q (.bl b) M) : BX B X (.builtin "isinstance") [d, .tup ts] G M Q := fun F σ H Q' vs r pa kk => by
  obtain ⟨v, v2, rfl, rp, r2⟩ := rp2 pa
  cases r2 with
  | @tup a xs _ hs rs => exact WC.of call_isiS ⟨v, a, xs, _, _, b, rfl, sq_same r.ex hs, tyNs_cls ht rs, rp.tyx r.ex hd, kitBs_any hk, kk.at r q (.bl b)⟩
end
end FL

namespace FL
open PySem PySem.Spec PyProof.Rows L2
def atB (N : List Str) (sc : Scope) (i : Nat) (x : Str) : Bool := decide (N[i]? = some x) && ((match sc.names.lookup x with | some .local => true | some .cell => true | _ => false) && (!(x == ("__debug__" : Str)) && !(x == ("__classdict__" : Str))))
section
variable {X : Cx} {N : List Str} {sc : Scope} {i : Nat} {x : Str}
theorem atB_parts (h : atB N sc i x = true) : N[i]? = some x ∧ (sc.names.lookup x = some .local ∨ sc.names.lookup x = some .cell) ∧ (x == ("__debug__" : Str)) = false ∧ (x == ("__classdict__" : Str)) = false := by
  unfold atB at h
  obtain ⟨h1, h⟩ := Bool.and_eq_true_iff.mp h
  obtain ⟨h2, h⟩ := Bool.and_eq_true_iff.mp h
  obtain ⟨h3, h4⟩ := Bool.and_eq_true_iff.mp h
  refine ⟨of_decide_eq_true h1, ?_, by simpa using h3, by simpa using h4⟩
  split at h2
  · left; assumption
  · right; assumption
  · cases h2
theorem At.of (hN : X.N = N) (hs : X.env.scope = sc) (h : atB N sc i x = true) : At X i x := by
  obtain ⟨h1, h2, h3, h4⟩ := atB_parts h
  refine ⟨by rw [hN]; exact h1, ?_, h3, h4⟩
  rw [hs]
  rcases h2 with h2 | h2
  · exact .inl h2
  · exact .inr (.inl h2)
theorem Lc.of (nd : N.Nodup) (hN : X.N = N) (hs : X.env.scope = sc) (hf : X.fn x = true ∨ X.env.scope.names.lookup x = some .local) (h : atB N sc i x = true) : Lc X i x := by
  obtain ⟨h1, h2, h3, h4⟩ := atB_parts h
  refine ⟨by rw [hN]; exact nd, by rw [hN]; exact h1, ?_, hf⟩
  rw [hs]
  exact h2
theorem At.b (hN : X.N[i]? = some x) (hv : Vis X.env.scope x) (hd : (x == ("__debug__" : Str)) = false := by decide) (hc : (x == ("__classdict__" : Str)) = false := by decide) : At X i x := ⟨hN, hv, hd, hc⟩
theorem Gb.of {d : D} {u : Value} {v : V} (g : Gl X x) (m : X.mg x = some u) (r : RelV v u) (h : ∀ F, Rp X.K F v d) (hd : (x == ("__debug__" : Str)) = false := by decide) : Gb X x d := ⟨g, ⟨u, v, m, r, h⟩, hd⟩
end
/-- a constant of the module -/
def Cst (K : PySem.W.Frag) (mg : Str → Option Value) (x : Str) (d : D) : Prop := ∃ u v, mg x = some u ∧ RelV v u ∧ ∀ F, Rp K F v d
theorem Gb.ofC {X : Cx} {x : Str} {d : D} (g : Gl X x) (h : Cst X.K X.mg x d) (hd : (x == ("__debug__" : Str)) = false := by decide) : Gb X x d := ⟨g, h, hd⟩
theorem Blt.blk {X : Cx} {x : Str} {f : Value} {s : Shared} {H : Hp} {scope : Scope} {cenv : Env} {fp : List Addr} (h : Blt X x f) (g : Gl (X.blk s H scope cenv fp) x) : Blt (X.blk s H scope cenv fp) x f := ⟨g, h.m, h.v, h.n, h.d⟩
theorem Gb.blk {X : Cx} {x : Str} {d : D} {s : Shared} {H : Hp} {scope : Scope} {cenv : Env} {fp : List Addr} (h : Gb X x d) (g : Gl (X.blk s H scope cenv fp) x) : Gb (X.blk s H scope cenv fp) x d := ⟨g, h.m, h.d⟩
theorem ite_dec {p A B : Prop} [Decidable p] (h1 : p → A) (h2 : ¬ p → B) : if decide p = true then A else B := by
  by_cases h : p
  · rw [decide_eq_true h]; exact iteT (h1 h)
  · rw [decide_eq_false h]; exact iteF (h2 h)
theorem ite_ndec {p A B : Prop} [Decidable p] (h1 : ¬ p → A) (h2 : p → B) : if (!decide p) = true then A else B := by
  by_cases h : p
  · rw [decide_eq_true h]; exact iteF (h2 h)
  · rw [decide_eq_false h]; exact iteT (h1 h)
theorem ite_b {b : Bool} {A B : Prop} (h1 : b = true → A) (h2 : b = false → B) : if b = true then A else B := by
  cases b with
  | true => exact iteT (h1 rfl)
  | false => exact iteF (h2 rfl)
theorem ite_nb {b : Bool} {A B : Prop} (h1 : b = false → A) (h2 : b = true → B) : if (!b) = true then A else B := by
  cases b with
  | true => exact iteF (h2 rfl)
  | false => exact iteT (h1 rfl)
theorem iteT' {c : Bool} {A B : Prop} (e : c = true) (h : A) : if c = true then A else B := by rw [if_pos e]; exact h
theorem iteF' {c : Bool} {A B : Prop} (e : c = false) (h : B) : if c = true then A else B := by rw [e]; exact iteF h
theorem asB_bl {Q : Bool → Mem → Prop} {b : Bool} {M : Mem} (h : Q b M) : AsB Q (.bl b) M := h
theorem ixN_nat {n j : Nat} (h : j < n) : ixN n (j : Int) = some j := by
  unfold ixN
  rw [if_pos (by omega), if_pos (by omega)]
  rfl
theorem atI_of {ds : List D} {i : Int} {j : Nat} {d : D} (e : i = (j : Int)) (h : ds[j]? = some d) : atI ds i = some d := by rw [e]; exact atI_nat h
end FL

namespace FL
open PySem PySem.Spec PyProof.Rows L2
section
variable {B : Bs} {X : Cx} {a b c e o tg iter elt : Expr} {es : List Expr} {G G' : Sl} {M M' : Mem} {Q : D → Mem → Prop} {E : En} {pos p pos' apos : Pos} {F F1 : Hp} {σ : L2.St} {k : Nat} {x y : Str} {i : Int}

/-! ### flat data -/
def D.toV : D → V
  | .bl b => .bl b | .int i => .int i | .str x => .str x | _ => .non
def D.flat : D → Bool
  | .non => true | .bl _ => true | .int _ => true | .str _ => true | _ => false
theorem Rp.flat {K : PySem.W.Frag} {v : V} {d : D} (r : Rp K F v d) (h : d.flat = true) : v = d.toV ∧ flatV d.toV = true := by
  cases r <;> first | exact ⟨rfl, rfl⟩ | cases h
theorem RpAll.flat {K : PySem.W.Frag} : ∀ {vs : List V} {ds : List D}, RpAll K F vs ds → ds.all D.flat = true → vs = ds.map D.toV ∧ (ds.map D.toV).all flatV = true
  | _, _, .nil, _ => ⟨rfl, rfl⟩
  | _, _, .cons r t, h => by
    obtain ⟨h1, h2⟩ := Bool.and_eq_true_iff.mp (show (_ && _) = true from h)
    obtain ⟨e1, f1⟩ := r.flat h1
    obtain ⟨e2, f2⟩ := RpAll.flat t h2
    refine ⟨by rw [e1, e2]; rfl, ?_⟩
    show (_ && _) = true
    rw [f1]; exact f2
def inD (d : D) (ds : List D) : Bool := inV d.toV (ds.map D.toV)
theorem in_core {neg : Bool} {op : CmpOp} {d : D} {ds : List D} {v : V} {pa : Addr} {H : Hp} {Q' : VK} (ho : OpR X (compareOp op) (rIn X.K neg)) (r : R B X.K F σ H G M) (p1 : Rp X.K F v d) (hf : d.flat = true) (ha : ds.all D.flat = true) (xs : List V) (hs : SqL X.K H pa xs ∨ SqT X.K H pa xs) (rs : RpAll X.K F xs ds)
    (q : Q (.bl (if neg then !inD d ds else inD d ds)) M) (kk : KE B X F σ G Q Q') : WO X (compareOp op) v (.ref pa) H Q' := by
  obtain ⟨e1, f1⟩ := p1.flat hf
  obtain ⟨e2, f2⟩ := rs.flat ha
  subst e1; subst e2
  exact WO.of ho ⟨pa, _, rfl, hs, f1, f2, kk.at r q (.bl _)⟩
theorem ox_inT {d : D} {ds : List D} (hf : d.flat = true) (ha : ds.all D.flat = true) (q : Q (.bl (inD d ds)) M) : OX B X (compareOp .In) d (.tup ds) G M Q := fun F σ H Q' v w r p1 p2 kk => by
  cases p2 with
  | @tup a xs _ hs rs => exact in_core op_in_seq r p1 hf ha xs (.inr (sq_same r.ex hs)) rs q kk
theorem ox_inL {d : D} {ds : List D} (hf : d.flat = true) (ha : ds.all D.flat = true) (q : Q (.bl (inD d ds)) M) : OX B X (compareOp .In) d (.lst ds) G M Q := fun F σ H Q' v w r p1 p2 kk => by
  cases p2 with
  | @lst a xs _ hs rs => exact in_core op_in_seq r p1 hf ha xs (.inl (r.ex.seq hs)) rs q kk
theorem ox_notInT {d : D} {ds : List D} (hf : d.flat = true) (ha : ds.all D.flat = true) (q : Q (.bl (!inD d ds)) M) : OX B X (compareOp .NotIn) d (.tup ds) G M Q := fun F σ H Q' v w r p1 p2 kk => by
  cases p2 with
  | @tup a xs _ hs rs => exact in_core op_notIn_seq r p1 hf ha xs (.inr (sq_same r.ex hs)) rs q kk
theorem ox_notInL {d : D} {ds : List D} (hf : d.flat = true) (ha : ds.all D.flat = true) (q : Q (.bl (!inD d ds)) M) : OX B X (compareOp .NotIn) d (.lst ds) G M Q := fun F σ H Q' v w r p1 p2 kk => by
  cases p2 with
  | @lst a xs _ hs rs => exact in_core op_notIn_seq r p1 hf ha xs (.inl (r.ex.seq hs)) rs q kk
theorem ox_inC {d : D} {l : Addr} {ds : List D} (hm : M l = some (.lst ds)) (hf : d.flat = true) (ha : ds.all D.flat = true) (q : Q (.bl (inD d ds)) M) : OX B X (compareOp .In) d (.ref l) G M Q := fun F σ H Q' v w r p1 p2 kk => by
  cases p2
  obtain ⟨_, xs, hx, rx⟩ := r.mem l _ hm
  exact in_core op_in_seq r p1 hf ha xs (.inl (.inl (.inl hx))) rx q kk
theorem ox_notInC {d : D} {l : Addr} {ds : List D} (hm : M l = some (.lst ds)) (hf : d.flat = true) (ha : ds.all D.flat = true) (q : Q (.bl (!inD d ds)) M) : OX B X (compareOp .NotIn) d (.ref l) G M Q := fun F σ H Q' v w r p1 p2 kk => by
  cases p2
  obtain ⟨_, xs, hx, rx⟩ := r.mem l _ hm
  exact in_core op_notIn_seq r p1 hf ha xs (.inl (.inl (.inl hx))) rx q kk
theorem str_beq_iff {x y : Str} : (x == y) = decide (x = y) := Bool.beq_eq_decide_eq x y
theorem inD_str : ∀ {xs : List Str}, inD (.str x) (xs.map D.str) = decide (x ∈ xs)
  | [] => by simp [inD, inV]
  | y :: ys => by
    have ih : inD (.str x) (ys.map D.str) = decide (x ∈ ys) := inD_str
    have e : inD (.str x) ((y :: ys).map D.str) = ((y == x) || inD (.str x) (ys.map D.str)) := rfl
    rw [e, ih, str_beq_iff]
    by_cases h : y = x
    · subst h; simp
    · have h' : ¬ x = y := fun z => h z.symm
      simp [h, h']
theorem inD_int {n : Int} : ∀ {xs : List Int}, inD (.int n) (xs.map D.int) = decide (n ∈ xs)
  | [] => by simp [inD, inV]
  | y :: ys => by
    have ih : inD (.int n) (ys.map D.int) = decide (n ∈ ys) := inD_int
    have e : inD (.int n) ((y :: ys).map D.int) = ((y == n) || inD (.int n) (ys.map D.int)) := rfl
    rw [e, ih, Bool.beq_eq_decide_eq]
    by_cases h : y = n
    · subst h; simp
    · have h' : ¬ n = y := fun z => h z.symm
      simp [h, h']
theorem flat_strs {xs : List Str} : (xs.map D.str).all D.flat = true := by simp [D.flat]
theorem flat_ints {xs : List Int} : (xs.map D.int).all D.flat = true := by simp [D.flat]
/-- one sign in a text -/
theorem ox_inS {n : Nat} (q : Q (.bl (decide (n ∈ x.cps.toList))) M) : OX B X (compareOp .In) (.str ⟨#[n]⟩) (.str x) G M Q := fun F σ H Q' v w r p1 p2 kk => by
  cases p1; cases p2; exact WO.of op_in_sign ⟨n, x, rfl, rfl, kk.at r q (.bl _)⟩
theorem ox_notInS {n : Nat} (q : Q (.bl (!decide (n ∈ x.cps.toList))) M) : OX B X (compareOp .NotIn) (.str ⟨#[n]⟩) (.str x) G M Q := fun F σ H Q' v w r p1 p2 kk => by
  cases p1; cases p2; exact WO.of op_notIn_sign ⟨n, x, rfl, rfl, kk.at r q (.bl _)⟩

/-! ### built-in names -/
theorem bb_len : bootBuiltins "len" = some (.builtin "len") := by decide +kernel
theorem bb_isinstance : bootBuiltins "isinstance" = some (.builtin "isinstance") := by decide +kernel
theorem bb_max : bootBuiltins "max" = some (.builtin "max") := by decide +kernel
theorem bb_min : bootBuiltins "min" = some (.builtin "min") := by decide +kernel
theorem bb_sorted : bootBuiltins "sorted" = some (.builtin "sorted") := by decide +kernel
theorem bb_int : bootBuiltins "int" = some (.type "int") := by decide +kernel
theorem bb_bool : bootBuiltins "bool" = some (.type "bool") := by decide +kernel
theorem bb_str : bootBuiltins "str" = some (.type "str") := by decide +kernel
theorem bb_tuple : bootBuiltins "tuple" = some (.type "tuple") := by decide +kernel
theorem bb_list : bootBuiltins "list" = some (.type "list") := by decide +kernel
theorem bb_dict : bootBuiltins "dict" = some (.type "dict") := by decide +kernel
theorem bb_set : bootBuiltins "set" = some (.type "set") := by decide +kernel
theorem bb_enumerate : bootBuiltins "enumerate" = some (.type "enumerate") := by decide +kernel
theorem bb_range : bootBuiltins "range" = some (.type "range") := by decide +kernel
/-! ### isinstance -/
def D.isI : D → Bool
  | .int _ => true | .bl _ => true | _ => false
def D.isB : D → Bool
  | .bl _ => true | _ => false
def D.isS : D → Bool
  | .str _ => true | _ => false
def D.isT : D → Bool
  | .tup _ => true | _ => false
def D.isL : D → Bool
  | .lst _ => true | _ => false
theorem kitI {d : D} (hd : d.tyd = true) : kitB d.tyN "int" = some d.isI := by
  cases d with
  | non => exact (by decide +kernel : kitB "NoneType" "int" = some false)
  | bl => exact (by decide +kernel : kitB "bool" "int" = some true)
  | int => exact (by decide +kernel : kitB "int" "int" = some true)
  | str => exact (by decide +kernel : kitB "str" "int" = some false)
  | tup => exact (by decide +kernel : kitB "tuple" "int" = some false)
  | lst => exact (by decide +kernel : kitB "list" "int" = some false)
  | dK => exact (by decide +kernel : kitB "dict" "int" = some false)
  | dT => exact (by decide +kernel : kitB "dict" "int" = some false)
  | ref _ => cases hd
  | ty _ => cases hd
theorem kitBo {d : D} (hd : d.tyd = true) : kitB d.tyN "bool" = some d.isB := by
  cases d with
  | non => exact (by decide +kernel : kitB "NoneType" "bool" = some false)
  | bl => exact (by decide +kernel : kitB "bool" "bool" = some true)
  | int => exact (by decide +kernel : kitB "int" "bool" = some false)
  | str => exact (by decide +kernel : kitB "str" "bool" = some false)
  | tup => exact (by decide +kernel : kitB "tuple" "bool" = some false)
  | lst => exact (by decide +kernel : kitB "list" "bool" = some false)
  | dK => exact (by decide +kernel : kitB "dict" "bool" = some false)
  | dT => exact (by decide +kernel : kitB "dict" "bool" = some false)
  | ref _ => cases hd
  | ty _ => cases hd
theorem kitS {d : D} (hd : d.tyd = true) : kitB d.tyN "str" = some d.isS := by
  cases d with
  | non => exact (by decide +kernel : kitB "NoneType" "str" = some false)
  | bl => exact (by decide +kernel : kitB "bool" "str" = some false)
  | int => exact (by decide +kernel : kitB "int" "str" = some false)
  | str => exact (by decide +kernel : kitB "str" "str" = some true)
  | tup => exact (by decide +kernel : kitB "tuple" "str" = some false)
  | lst => exact (by decide +kernel : kitB "list" "str" = some false)
  | dK => exact (by decide +kernel : kitB "dict" "str" = some false)
  | dT => exact (by decide +kernel : kitB "dict" "str" = some false)
  | ref _ => cases hd
  | ty _ => cases hd
theorem kitT {d : D} (hd : d.tyd = true) : kitB d.tyN "tuple" = some d.isT := by
  cases d with
  | non => exact (by decide +kernel : kitB "NoneType" "tuple" = some false)
  | bl => exact (by decide +kernel : kitB "bool" "tuple" = some false)
  | int => exact (by decide +kernel : kitB "int" "tuple" = some false)
  | str => exact (by decide +kernel : kitB "str" "tuple" = some false)
  | tup => exact (by decide +kernel : kitB "tuple" "tuple" = some true)
  | lst => exact (by decide +kernel : kitB "list" "tuple" = some false)
  | dK => exact (by decide +kernel : kitB "dict" "tuple" = some false)
  | dT => exact (by decide +kernel : kitB "dict" "tuple" = some false)
  | ref _ => cases hd
  | ty _ => cases hd
theorem kitL {d : D} (hd : d.tyd = true) : kitB d.tyN "list" = some d.isL := by
  cases d with
  | non => exact (by decide +kernel : kitB "NoneType" "list" = some false)
  | bl => exact (by decide +kernel : kitB "bool" "list" = some false)
  | int => exact (by decide +kernel : kitB "int" "list" = some false)
  | str => exact (by decide +kernel : kitB "str" "list" = some false)
  | tup => exact (by decide +kernel : kitB "tuple" "list" = some false)
  | lst => exact (by decide +kernel : kitB "list" "list" = some true)
  | dK => exact (by decide +kernel : kitB "dict" "list" = some false)
  | dT => exact (by decide +kernel : kitB "dict" "list" = some false)
  | ref _ => cases hd
  | ty _ => cases hd
theorem kitTL {d : D} (hd : d.tyd = true) : kitBs d.tyN ["tuple", "list"] = some (d.isT || d.isL) := by
  cases d with
  | non => exact (by decide +kernel : kitBs "NoneType" ["tuple", "list"] = some false)
  | bl => exact (by decide +kernel : kitBs "bool" ["tuple", "list"] = some false)
  | int => exact (by decide +kernel : kitBs "int" ["tuple", "list"] = some false)
  | str => exact (by decide +kernel : kitBs "str" ["tuple", "list"] = some false)
  | tup => exact (by decide +kernel : kitBs "tuple" ["tuple", "list"] = some true)
  | lst => exact (by decide +kernel : kitBs "list" ["tuple", "list"] = some true)
  | dK => exact (by decide +kernel : kitBs "dict" ["tuple", "list"] = some false)
  | dT => exact (by decide +kernel : kitBs "dict" ["tuple", "list"] = some false)
  | ref _ => cases hd
  | ty _ => cases hd
theorem bx_isiI {d : D} (hd : d.tyd = true) (q : Q (.bl d.isI) M) : BX B X (.builtin "isinstance") [d, .ty "int"] G M Q := bx_isi hd (kitI hd) q
theorem bx_isiB {d : D} (hd : d.tyd = true) (q : Q (.bl d.isB) M) : BX B X (.builtin "isinstance") [d, .ty "bool"] G M Q := bx_isi hd (kitBo hd) q
theorem bx_isiSt {d : D} (hd : d.tyd = true) (q : Q (.bl d.isS) M) : BX B X (.builtin "isinstance") [d, .ty "str"] G M Q := bx_isi hd (kitS hd) q
theorem bx_isiTu {d : D} (hd : d.tyd = true) (q : Q (.bl d.isT) M) : BX B X (.builtin "isinstance") [d, .ty "tuple"] G M Q := bx_isi hd (kitT hd) q
theorem bx_isiLi {d : D} (hd : d.tyd = true) (q : Q (.bl d.isL) M) : BX B X (.builtin "isinstance") [d, .ty "list"] G M Q := bx_isi hd (kitL hd) q
theorem bx_isiTL {d : D} (hd : d.tyd = true) (q : Q (.bl (d.isT || d.isL)) M) : BX B X (.builtin "isinstance") [d, .tup [.ty "tuple", .ty "list"]] G M Q := bx_isiT hd rfl (kitTL hd) q

/-! ### list(..), tuple(..), int(..), str(..) -/
theorem bx_listL {ds : List D} (q : Q (.lst ds) M) : BX B X (.type "list") [.lst ds] G M Q := fun F σ H Q' vs r pa kk => by
  obtain ⟨v, rfl, rp⟩ := rp1 pa
  cases rp with
  | @lst a xs _ hs rs => exact WC.of call_list_of ⟨a, xs, rfl, .inl (r.ex.seq hs), fun l hl => kk.new r hl q (.lst sl_upd (rs.mono (r.new hl).1))⟩
theorem bx_listT {ds : List D} (q : Q (.lst ds) M) : BX B X (.type "list") [.tup ds] G M Q := fun F σ H Q' vs r pa kk => by
  obtain ⟨v, rfl, rp⟩ := rp1 pa
  cases rp with
  | @tup a xs _ hs rs => exact WC.of call_list_of ⟨a, xs, rfl, .inr (sq_same r.ex hs), fun l hl => kk.new r hl q (.lst sl_upd (rs.mono (r.new hl).1))⟩
theorem bx_listLM {ds : List D} (q : ∀ l, M l = none → Q (.ref l) (mupd M l (.lst ds))) : BX B X (.type "list") [.lst ds] G M Q := fun F σ H Q' vs r pa kk => by
  obtain ⟨v, rfl, rp⟩ := rp1 pa
  cases rp with
  | @lst a xs _ hs rs => exact WC.of call_list_of ⟨a, xs, rfl, .inl (r.ex.seq hs), fun l hl => kk.cell r hl (q l (r.freeM hl)) ⟨xs, upd_same, rs⟩⟩
theorem bx_listTM {ds : List D} (q : ∀ l, M l = none → Q (.ref l) (mupd M l (.lst ds))) : BX B X (.type "list") [.tup ds] G M Q := fun F σ H Q' vs r pa kk => by
  obtain ⟨v, rfl, rp⟩ := rp1 pa
  cases rp with
  | @tup a xs _ hs rs => exact WC.of call_list_of ⟨a, xs, rfl, .inr (sq_same r.ex hs), fun l hl => kk.cell r hl (q l (r.freeM hl)) ⟨xs, upd_same, rs⟩⟩
theorem bx_listC {l : Addr} {ds : List D} (hm : M l = some (.lst ds)) (q : Q (.lst ds) M) : BX B X (.type "list") [.ref l] G M Q := fun F σ H Q' vs r pa kk => by
  obtain ⟨v, rfl, rp⟩ := rp1 pa
  cases rp
  obtain ⟨_, xs, hx, rx⟩ := r.mem l _ hm
  exact WC.of call_list_of ⟨l, xs, rfl, .inl (.inl (.inl hx)), fun l hl => kk.new r hl q (.lst sl_upd (rx.mono (r.new hl).1))⟩
theorem bx_tupL {ds : List D} (q : Q (.tup ds) M) : BX B X (.type "tuple") [.lst ds] G M Q := fun F σ H Q' vs r pa kk => by
  obtain ⟨v, rfl, rp⟩ := rp1 pa
  cases rp with
  | @lst a xs _ hs rs => exact WC.of call_tuple_of ⟨a, xs, rfl, .inl ⟨r.ex.seq hs, fun l hl => kk.new r hl q (.tup sq_upd (rs.mono (r.new hl).1))⟩⟩
theorem bx_tupC {l : Addr} {ds : List D} (hm : M l = some (.lst ds)) (q : Q (.tup ds) M) : BX B X (.type "tuple") [.ref l] G M Q := fun F σ H Q' vs r pa kk => by
  obtain ⟨v, rfl, rp⟩ := rp1 pa
  cases rp
  obtain ⟨_, xs, hx, rx⟩ := r.mem l _ hm
  exact WC.of call_tuple_of ⟨l, xs, rfl, .inl ⟨.inl (.inl hx), fun l hl => kk.new r hl q (.tup sq_upd (rx.mono (r.new hl).1))⟩⟩
theorem bx_strI (h : i.natAbs.log2 < 1920) (q : Q (.str (toString i)) M) : BX B X (.type "str") [.int i] G M Q := fun F σ H Q' vs r pa kk => by
  obtain ⟨v, rfl, rp⟩ := rp1 pa
  cases rp
  exact WC.of call_str_int ⟨i, rfl, h, kk.at r q (.str _)⟩
theorem bx_intS {n : Int} (h : PySem.intText? x = some n) (hl : x.length ≤ 640) (q : Q (.int n) M) : BX B X (.type "int") [.str x] G M Q := fun F σ H Q' vs r pa kk => by
  obtain ⟨v, rfl, rp⟩ := rp1 pa
  cases rp
  exact WC.of call_int_str ⟨x, n, rfl, h, hl, kk.at r q (.int _)⟩
theorem bx_intB {t : Bool} (q : Q (.int (if t then 1 else 0)) M) : BX B X (.type "int") [.bl t] G M Q := fun F σ H Q' vs r pa kk => by
  obtain ⟨v, rfl, rp⟩ := rp1 pa
  cases rp
  exact WC.of call_int1 (.inr ⟨t, rfl, kk.at r q (.int _)⟩)
theorem bx_max2 {i j : Int} (hc : X.calm = true) (q : Q (.int (if j > i then j else i)) M) : BX B X (.builtin "max") [.int i, .int j] G M Q := fun F σ H Q' vs r pa kk => by
  obtain ⟨v, v2, rfl, rp, rp2⟩ := rp2 pa
  cases rp; cases rp2
  exact WC.of (call_max2 hc) ⟨i, j, rfl, kk.at r q (.int _)⟩
theorem bx_min2 {i j : Int} (hc : X.calm = true) (q : Q (.int (if j < i then j else i)) M) : BX B X (.builtin "min") [.int i, .int j] G M Q := fun F σ H Q' vs r pa kk => by
  obtain ⟨v, v2, rfl, rp, rp2⟩ := rp2 pa
  cases rp; cases rp2
  exact WC.of (call_min2 hc) ⟨i, j, rfl, kk.at r q (.int _)⟩

/-! ### methods of texts -/
theorem ex_m1 {id : String} {name : Str} (slot : Slot "str" name id) (ty : typeOf (.builtin id) = pure (.type "method_descriptor")) (hs : starEach [e] X.env = [(false, eval e X.env)]) (hbase : attributeBase o name X.env (eval o X.env) = eval o X.env) (hline : (apos.endLine == pos.line) = true)
    (h : EX B X o G M fun d M1 => ∃ z, d = .str z ∧ EX B X e G M1 fun y M2 => MX B X id d [y] G M2 Q) : EX B X (.Call (.Attribute o name apos) [e] [] pos) G M Q := fun F σ H Q' r kk =>
  WE.of (pe_m1 slot ty mt_wm pe_we pe_we hs hbase hline) (h F σ H _ r fun v1 H1 F1 d1 M1 ⟨z, e1, q1⟩ s1 r1 p1 => by
    subst e1
    cases p1
    exact ⟨⟨z, rfl⟩, q1 F1 σ H1 _ r1 fun v2 H2 F2 d2 M2 q2 s2 r2 p2 => q2 F2 σ H2 Q' _ _ r2 (.str z) (.cons p2 .nil) (kk.mono (s1.trans s2))⟩)
theorem mx_split (hy : (y.length == 0) = false) (hx : x.length + 2 ≤ sizeLine) (q : Q (.lst ((Txt.split x y).map D.str)) M) : MX B X "str.split" (.str x) [.str y] G M Q := fun F σ H Q' v vs r p1 pa kk => by
  obtain ⟨v2, rfl, rp⟩ := rp1 pa
  cases p1; cases rp
  exact WM.of mt_split ⟨x, y, rfl, rfl, hy, hx, fun p hp => kk.new r hp q (.lst sl_upd RpAll.strs)⟩
theorem RpAll.strs_of {K : PySem.W.Frag} : ∀ {zs : List Str} {vs : List V}, RpAll K F vs (zs.map D.str) → vs = zs.map V.str
  | [], _, h => by cases h; rfl
  | z :: zs, _, h => by
    cases h with
    | cons p t =>
      cases p
      rw [RpAll.strs_of t]; rfl
theorem RpAll.ints_of {K : PySem.W.Frag} : ∀ {zs : List Int} {vs : List V}, RpAll K F vs (zs.map D.int) → vs = zs.map V.int
  | [], _, h => by cases h; rfl
  | z :: zs, _, h => by
    cases h with
    | cons p t =>
      cases p
      rw [RpAll.ints_of t]; rfl
theorem mx_join {zs : List Str} (hz : (zs.map (·.length)).sum + zs.length * x.length ≤ 16777216) (q : Q (.str (Txt.join x zs)) M) : MX B X "str.join" (.str x) [.lst (zs.map D.str)] G M Q := fun F σ H Q' v vs r p1 pa kk => by
  obtain ⟨v2, rfl, rp⟩ := rp1 pa
  cases p1
  cases rp with
  | @lst a xs _ hs rs =>
    have e := RpAll.strs_of rs
    subst e
    exact WM.of mt_join ⟨x, a, zs, rfl, rfl, .inl (r.ex.seq hs), hz, kk.at r q (.str _)⟩
/-- a text, sign by sign -/
def signsD (x : Str) : List D := x.cps.toList.map fun c => D.str ⟨#[c]⟩
theorem lx_str {Q : List D → Mem → Prop} (h : EX B X e G M fun d M1 => ∃ z, d = .str z ∧ Q (signsD z) M1) : LX B X tg e G M Q := fun F σ H R' r k =>
  WIt.of (pi_str pe_we) (h F σ H _ r fun v H1 F1 d1 M1 ⟨z, e1, q⟩ s1 r1 p1 => by
    subst e1
    cases p1
    refine ⟨z, rfl, k _ _ F1 _ M1 q s1 r1 ⟨fun i H hi s => ?_, fun H s => ?_, fun i H x H' hi s y => ?_⟩⟩
    · show i < z.cps.size
      simpa [signsD] using hi
    · show z.cps.size ≤ _
      simp [signsD]
    · obtain ⟨e, c, hc, hx⟩ := y
      subst e; subst hx
      refine ⟨.str ⟨#[c]⟩, ?_, fun B F1 σ G M s1 r1 => ⟨F1, Same.refl F1, r1, .str _⟩⟩
      unfold signsD
      rw [List.getElem?_map, Array.getElem?_toList, hc]
      rfl)

/-! ### f-strings -/
theorem ex_fmtS (h : EX B X e G M fun d M1 => ∃ z, d = .str z ∧ z.length ≤ sizeLine ∧ Q (.str z) M1) : EX B X (.FormattedValue e (-1) none pos) G M Q := fun F σ H Q' r kk =>
  WE.of (pe_fmt pe_we) (h F σ H _ r fun v H1 F1 d1 M1 ⟨z, e1, hl, q⟩ s1 r1 p1 => by
    subst e1; cases p1
    exact .inl ⟨z, rfl, hl, (kk.mono s1).at r1 q (.str _)⟩)
theorem ex_fmtI (h : EX B X e G M fun d M1 => ∃ i : Int, d = .int i ∧ i.natAbs.log2 < 1920 ∧ Q (.str (toString i)) M1) : EX B X (.FormattedValue e (-1) none pos) G M Q := fun F σ H Q' r kk =>
  WE.of (pe_fmt pe_we) (h F σ H _ r fun v H1 F1 d1 M1 ⟨i, e1, hl, q⟩ s1 r1 p1 => by
    subst e1; cases p1
    exact .inr ⟨i, rfl, hl, (kk.mono s1).at r1 q (.str _)⟩)
/-- the parts of a text, one behind the other -/
def JX (B : Bs) (X : Cx) : List Expr → Str → Sl → Mem → (Str → Mem → Prop) → Prop
  | [], acc, _, M, Q => Q acc M
  | e :: es, acc, G, M, Q => EX B X e G M fun d M1 => ∃ y, d = .str y ∧ (acc ++ y).length ≤ sizeLine ∧ JX B X es (acc ++ y) G M1 Q
theorem pj_we : ∀ es : List Expr, PJ X es (es.map (WE X))
  | [] => .nil
  | _ :: es => .cons pe_we (pj_we es)
theorem jx_ok {Q : Str → Mem → Prop} {Q' : Str → Hp → Prop} : ∀ {es : List Expr} {acc : Str} {M : Mem} {F H : Hp}, JX B X es acc G M Q → R B X.K F σ H G M → (∀ out H' F' M', Q out M' → Same F F' → R B X.K F' σ H' G M' → Q' out H') → tJs (es.map (WE X)) acc σ H Q'
  | [], acc, M, F, H, h, r, k => k acc H F M h (Same.refl F) r
  | e :: es, acc, M, F, H, h, r, k => by
    refine h F σ H _ r fun v H1 F1 d1 M1 ⟨z, e1, hl, q⟩ s1 r1 p1 => ?_
    subst e1; cases p1
    exact ⟨z, rfl, hl, jx_ok q r1 fun out H' F' M' qq s' r' => k out H' F' M' qq (s1.trans s') r'⟩
theorem ex_joined {v1 v2 : Expr} {rest : List Expr} (h : JX B X (v1 :: v2 :: rest) Str.empty G M fun out M1 => Q (.str out) M1) : EX B X (.JoinedStr (v1 :: v2 :: rest) pos) G M Q := fun F σ H Q' r kk =>
  WE.of (pe_joined (pj_we _)) (jx_ok h r fun out H' F' M' q s' r' => (kk.mono s').at r' q (.str out))
end

/-! ### equality of data -/
mutual
def D.py : D → PyData
  | .non => .none | .bl b => .bool b | .int i => .int i | .str x => .str x | .tup ds => .tuple (pys ds) | .lst ds => .list (pys ds)
  | .ref _ => .none | .ty _ => .none | .dK _ => .none | .dT _ => .none
def pys : List D → List PyData
  | [] => []
  | d :: ds => d.py :: pys ds
end
mutual
def D.isPy : D → Bool
  | .non => true | .bl _ => true | .int _ => true | .str _ => true | .tup ds => arePy ds | .lst ds => arePy ds
  | .ref _ => false | .ty _ => false | .dK _ => false | .dT _ => false
def arePy : List D → Bool
  | [] => true
  | d :: ds => d.isPy && arePy ds
end
mutual
theorem Rp.dp {K : PySem.W.Frag} {F H : Hp} (s : Same F H) : ∀ {v : V} {d : D}, Rp K F v d → d.isPy = true → Dp K H v d.py
  | _, _, .non, _ => by unfold D.py; exact .non
  | _, _, .bl b, _ => by unfold D.py; exact .bl b
  | _, _, .int i, _ => by unfold D.py; exact .int i
  | _, _, .str x, _ => by unfold D.py; exact .str x
  | _, _, .ref _, h => by unfold D.isPy at h; cases h
  | _, _, .ty _, h => by unfold D.isPy at h; cases h
  | _, _, .tup hs r, h => by unfold D.isPy at h; unfold D.py; exact .tup (sq_same s hs) (RpAll.dp s r h)
  | _, _, .lst hs r, h => by unfold D.isPy at h; unfold D.py; exact .lst (s.seq hs) (RpAll.dp s r h)
  | _, _, .dK _ _, h => by unfold D.isPy at h; cases h
  | _, _, .dT _ _, h => by unfold D.isPy at h; cases h
theorem RpAll.dp {K : PySem.W.Frag} {F H : Hp} (s : Same F H) : ∀ {vs : List V} {ds : List D}, RpAll K F vs ds → arePy ds = true → DpAll K H vs (pys ds)
  | _, _, .nil, _ => by unfold pys; exact .nil
  | _, _, .cons p r, h => by
    unfold arePy at h
    obtain ⟨h1, h2⟩ := Bool.and_eq_true_iff.mp h
    unfold pys
    exact .cons (Rp.dp s p h1) (RpAll.dp s r h2)
end
def D.okEq (d : D) : Bool := d.isPy && SeqAt.shaped d.py
def eqD (d e : D) : Bool := PyData.eqv d.py e.py
section
variable {B : Bs} {X : Cx} {G : Sl} {M : Mem} {Q : D → Mem → Prop} {d d2 : D}
theorem ox_eqD (hu : X.A.units + 64 < cLine) (h1 : d.okEq = true) (h2 : d2.okEq = true) (q : Q (.bl (eqD d d2)) M) : OX B X (compareOp .Eq) d d2 G M Q := fun F σ H Q' v w r p1 p2 kk => by
  obtain ⟨a1, a2⟩ := Bool.and_eq_true_iff.mp h1
  obtain ⟨b1, b2⟩ := Bool.and_eq_true_iff.mp h2
  exact WO.of (op_eqD hu) ⟨_, _, p1.dp r.ex a1, p2.dp r.ex b1, a2, b2, kk.at r q (.bl _)⟩
theorem ox_neD (hu : X.A.units + 64 < cLine) (h1 : d.okEq = true) (h2 : d2.okEq = true) (q : Q (.bl (!eqD d d2)) M) : OX B X (compareOp .NotEq) d d2 G M Q := fun F σ H Q' v w r p1 p2 kk => by
  obtain ⟨a1, a2⟩ := Bool.and_eq_true_iff.mp h1
  obtain ⟨b1, b2⟩ := Bool.and_eq_true_iff.mp h2
  exact WO.of (op_neD hu) ⟨_, _, p1.dp r.ex a1, p2.dp r.ex b1, a2, b2, kk.at r q (.bl _)⟩
end
end FL

/-! cells that are only read by a callee; what is told is immutable -/
namespace FL
open PySem PySem.Spec PyProof.Rows L2
mutual
/-- the data with the list cells' contents in their places -/
inductive Deep (M : Mem) : D → D → Prop
  | self (d : D) : Deep M d d
  | cell {l : Addr} {ds es : List D} : M l = some (.lst ds) → DeepAll M ds es → Deep M (.ref l) (.lst es)
  | lst {ds es : List D} : DeepAll M ds es → Deep M (.lst ds) (.lst es)
  | tup {ds es : List D} : DeepAll M ds es → Deep M (.tup ds) (.tup es)
inductive DeepAll (M : Mem) : List D → List D → Prop
  | nil : DeepAll M [] []
  | cons {d e : D} {ds es : List D} : Deep M d e → DeepAll M ds es → DeepAll M (d :: ds) (e :: es)
end
theorem DeepAll.self {M : Mem} : ∀ ds : List D, DeepAll M ds ds
  | [] => .nil
  | d :: ds => .cons (.self d) (DeepAll.self ds)
section
variable {B : Bs} {K : PySem.W.Frag} {F H : Hp} {σ : L2.St} {G : Sl} {M : Mem}
mutual
theorem Deep.rp (r : R B K F σ H G M) : ∀ {d e : D}, Deep M d e → ∀ {v : V}, Rp K F v d → Rp K H v e
  | _, _, .self d, _, p => p.mono r.ex
  | _, _, .cell hm ha, _, p => by
    cases p
    obtain ⟨_, xs, hx, rx⟩ := r.mem _ _ hm
    exact .lst (.inl (.inl hx)) (DeepAll.rp r ha rx)
  | _, _, .lst ha, _, p => by
    cases p with
    | lst hs rs => exact .lst (r.ex.seq hs) (DeepAll.rp r ha rs)
  | _, _, .tup ha, _, p => by
    cases p with
    | tup hs rs => exact .tup (sq_same r.ex hs) (DeepAll.rp r ha rs)
theorem DeepAll.rp (r : R B K F σ H G M) : ∀ {ds es : List D}, DeepAll M ds es → ∀ {vs : List V}, RpAll K F vs ds → RpAll K H vs es
  | _, _, .nil, _, p => by cases p; exact .nil
  | _, _, .cons h t, _, p => by
    cases p with
    | cons p1 p2 => exact .cons (Deep.rp r h p1) (DeepAll.rp r t p2)
end
end
mutual
def D.imm : D → Bool
  | .non => true | .bl _ => true | .int _ => true | .str _ => true | .ty _ => true | .tup ds => imms ds
  | .lst _ => false | .ref _ => false | .dK _ => false | .dT _ => false
def imms : List D → Bool
  | [] => true
  | d :: ds => d.imm && imms ds
end
theorem MRp.kind {K : PySem.W.Frag} {F H : Hp} {a : Addr} : ∀ {o : MO}, MRp K F H a o → ∃ u, H a = some u ∧ (∀ xs, u ≠ .tup xs) ∧ ∀ ob w, u ≠ .frz ob w
  | .lst _, ⟨xs, h, r⟩ => ⟨_, h, (fun _ e => by cases e), (fun _ _ e => by cases e)⟩
  | .ins _ _, ⟨dx, vs, h, r⟩ => ⟨_, h, (fun _ e => by cases e), (fun _ _ e => by cases e)⟩
  | .dK _, ⟨xs, h, r⟩ => ⟨_, h, (fun _ e => by cases e), (fun _ _ e => by cases e)⟩
  | .dT _, ⟨xs, h, r⟩ => ⟨_, h, (fun _ e => by cases e), (fun _ _ e => by cases e)⟩
section
variable {B : Bs} {K : PySem.W.Frag} {F H F0 : Hp} {σ : L2.St} {G : Sl} {M : Mem}
/-- one more thing of the heap is known to stay -/
theorem R.know {a : Addr} {u : HO} (r : R B K F σ H G M) (h : H a = some u) (hu : (∃ xs, u = .tup xs) ∨ ∃ ob w, u = .frz ob w) : ∃ F2, Same F F2 ∧ R B K F2 σ H G M ∧ F2 a = some u := by
  cases e : F a with
  | some w =>
    have h2 := r.ex a w e
    rw [h] at h2
    cases h2
    exact ⟨F, Same.refl F, r, e⟩
  | none =>
    refine ⟨upd F a u, Same.upd_new e, R.grow (Same.upd_new e) (fun b w q => ?_) (fun b o q => ?_) r, upd_same⟩
    · by_cases hb : b = a
      · subst hb; rw [upd_same] at q; cases q; exact h
      · rw [upd_ne hb] at q; exact r.ex b w q
    · have hb : b ≠ a := fun z => by
        subst z
        obtain ⟨w, hw, k1, k2⟩ := (r.mem b o q).2.kind
        rw [h] at hw; cases hw
        rcases hu with ⟨xs, z⟩ | ⟨ob, w, z⟩
        · exact k1 xs z
        · exact k2 ob w z
      rw [upd_ne hb]; exact (r.mem b o q).1
mutual
theorem Rp.take_in (s : Same F0 H) : ∀ {v : V} {d : D}, Rp K F0 v d → d.imm = true → ∀ {F : Hp}, R B K F σ H G M → ∃ F2, Same F F2 ∧ R B K F2 σ H G M ∧ Rp K F2 v d
  | _, _, .non, _, F, r => ⟨F, Same.refl F, r, .non⟩
  | _, _, .bl b, _, F, r => ⟨F, Same.refl F, r, .bl b⟩
  | _, _, .int b, _, F, r => ⟨F, Same.refl F, r, .int b⟩
  | _, _, .str b, _, F, r => ⟨F, Same.refl F, r, .str b⟩
  | _, _, .ty b, _, F, r => ⟨F, Same.refl F, r, .ty b⟩
  | _, _, .ref _, h, _, _ => by unfold D.imm at h; cases h
  | _, _, .lst _ _, h, _, _ => by unfold D.imm at h; cases h
  | _, _, .dK _ _, h, _, _ => by unfold D.imm at h; cases h
  | _, _, .dT _ _, h, _, _ => by unfold D.imm at h; cases h
  | _, _, .tup hs rs, h, F, r => by
    unfold D.imm at h
    obtain ⟨F1, s1, r1, p1⟩ := RpAll.take_in s rs h r
    rcases hs with (hs | ⟨ob, hs⟩) | hs
    · obtain ⟨F2, s2, r2, e2⟩ := r1.know (s _ _ hs) (.inl ⟨_, rfl⟩)
      exact ⟨F2, s1.trans s2, r2, .tup (.inl (.inl e2)) (p1.mono s2)⟩
    · obtain ⟨F2, s2, r2, e2⟩ := r1.know (s _ _ hs) (.inr ⟨_, _, rfl⟩)
      exact ⟨F2, s1.trans s2, r2, .tup (.inl (.inr ⟨ob, e2⟩)) (p1.mono s2)⟩
    · exact ⟨F1, s1, r1, .tup (.inr hs) p1⟩
theorem RpAll.take_in (s : Same F0 H) : ∀ {vs : List V} {ds : List D}, RpAll K F0 vs ds → imms ds = true → ∀ {F : Hp}, R B K F σ H G M → ∃ F2, Same F F2 ∧ R B K F2 σ H G M ∧ RpAll K F2 vs ds
  | _, _, .nil, _, F, r => ⟨F, Same.refl F, r, .nil⟩
  | _, _, .cons p t, h, F, r => by
    unfold imms at h
    obtain ⟨h1, h2⟩ := Bool.and_eq_true_iff.mp h
    obtain ⟨F1, s1, r1, p1⟩ := Rp.take_in s p h1 r
    obtain ⟨F2, s2, r2, p2⟩ := RpAll.take_in s t h2 r1
    exact ⟨F2, s1.trans s2, r2, .cons (p1.mono s2) p2⟩
end
end
abbrev noM : Mem := fun _ => none
section
variable {B : Bs} {X : Cx} {a b c e o : Expr} {es : List Expr} {G : Sl} {M : Mem} {Q : D → Mem → Prop} {pos p : Pos} {F F1 : Hp} {σ : L2.St} {k : Nat} {x : Str} {sp : DSp}
theorem lift_ro {H1 : Hp} {vs : List V} {ds es : List D} {Q' : VK} {E0' : XK} {Qd : D → Mem → Prop} (r1 : R B X.K F1 σ H1 G M) (p1 : RpAll X.K F1 vs ds) (dp : DeepAll M ds es) (q : sp es noM Qd) (hq : ∀ d M', Qd d M' → d.imm = true ∧ Q d M) (kk : KE B X F1 σ G Q Q') : lift X.K sp vs H1 Q' E0' := by
  refine ⟨H1, es, noM, Qd, dp.rp r1 p1, Same.refl H1, (fun _ _ z => by cases z), q, fun d M' qd v H' F' s' k' e' m' rp => ?_⟩
  obtain ⟨hi, hd⟩ := hq d M' qd
  have hs : Same H1 H' := fun a u h => (k' a u h rfl).1
  obtain ⟨F2, s2, r2, p2⟩ := rp.take_in e' hi (r1.heap hs)
  exact kk v H' F2 d M hd s2 r2 p2
/-- a call that only reads the cells -/
theorem ex_callR (c : Dfn X.prog X.w X.K X.mg X.base k x sp) (hr : Room k X.A) (hg : Gl X x) (hdb : (x == ("__debug__" : Str)) = false)
    (he : starEach (e :: es) X.env = (false, eval e X.env) :: starEach es X.env) (hpl : (backTo pos (starEach es X.env)).any (·.1) = false)
    (h : AX B X (e :: es) G M fun ds M1 => ∃ es' Qd, DeepAll M1 ds es' ∧ sp es' noM Qd ∧ ∀ d M', Qd d M' → d.imm = true ∧ Q d M1) : EX B X (.Call (.Name x p) (e :: es) [] pos) G M Q := fun F σ H Q' r kk => by
  obtain ⟨f, fd, ps, Fo, mgx, kp, bd⟩ := c.ex
  refine WE.of (pe_call Fo hr hg mgx kp bd .nil pass0 pa_wa hdb he hpl) (h F σ H _ r fun vs H1 F1 ds M1 ⟨es', Qd, dp, q1, hq⟩ s1 r1 p1 => ?_)
  rw [List.append_nil]
  exact lift_ro r1 p1 dp q1 hq (kk.mono s1)
/-- append to a list cell -/
theorem mx_append {l : Addr} {ds : List D} {d : D} (hm : M l = some (.lst ds)) (hl : ds.length < sizeLine) (q : Q .non (mupd M l (.lst (ds ++ [d])))) : MX B X "list.append" (.ref l) [d] G M Q := fun F σ H Q' v vs r p1 pa kk => by
  obtain ⟨v2, rfl, rp⟩ := rp1 pa
  cases p1
  obtain ⟨_, xs, hx, rx⟩ := r.mem l _ hm
  exact WM.of mt_append ⟨l, xs, v2, rfl, rfl, hx, by rw [rx.length]; exact hl, kk _ _ F _ _ q (Same.refl F) (r.write hm ⟨_, upd_same, rx.append (.cons rp .nil)⟩) .non⟩
/-- a method of a built-in list, with arguments; the receiver a cell -/
theorem ex_bmC {name : Str} {id : String} {apos : Pos} (slot : Slot "list" name id) (hty : typeOf (.builtin id) = pure (.type "method_descriptor"))
    (hbase : attributeBase o name X.env (eval o X.env) = eval o X.env)
    (hfew : ((backTo pos (starEach (e :: es) X.env)).all (fun x => !x.1) && (backToKw pos (keywordEach [] X.env)).all (fun x => x.1.isSome)
      && decide ((e :: es).length + ([] : List Keyword).length + (if ([] : List Keyword).isEmpty then 0 else 1) < 30)) = true)
    (hline : (apos.endLine == pos.line) = true) (hs : starEach (e :: es) X.env = (false, eval e X.env) :: starEach es X.env) (hplain : (backTo pos (starEach es X.env)).any (·.1) = false)
    (h : EX B X o G M fun d M1 => ∃ l ds, d = .ref l ∧ M1 l = some (.lst ds) ∧ AX B X (e :: es) G M1 fun xs M2 => MX B X id (.ref l) xs G M2 Q) : EX B X (.Call (.Attribute o name apos) (e :: es) [] pos) G M Q := fun F σ H Q' r kk =>
  WE.of (pe_bm PySem.F.plainAttrs_list slot hty mt_wm pe_we pa_wa hbase hfew hline hs hplain) (h F σ H _ r fun v1 H1 F1 d1 M1 ⟨l, ds, e1, hm, q1⟩ s1 r1 p1 => by
    subst e1
    cases p1
    obtain ⟨_, xs, hx, rx⟩ := r1.mem l _ hm
    exact ⟨.inl ⟨rfl, xs, .inl (.inl hx)⟩, q1 F1 σ H1 _ r1 fun vs H2 F2 ds2 M2 q2 s2 r2 p2 => q2 F2 σ H2 Q' _ vs r2 (.ref l) p2 (kk.mono (s1.trans s2))⟩)
/-- l.append(e), l a cell -/
theorem ex_append {apos : Pos} (hbase : attributeBase o "append" X.env (eval o X.env) = eval o X.env)
    (hfew : ((backTo pos (starEach [e] X.env)).all (fun x => !x.1) && (backToKw pos (keywordEach [] X.env)).all (fun x => x.1.isSome)
      && decide ([e].length + ([] : List Keyword).length + (if ([] : List Keyword).isEmpty then 0 else 1) < 30)) = true)
    (hline : (apos.endLine == pos.line) = true) (hs : starEach [e] X.env = (false, eval e X.env) :: starEach [] X.env) (hplain : (backTo pos (starEach [] X.env)).any (·.1) = false)
    (h : EX B X o G M fun d M1 => ∃ l ds0, d = .ref l ∧ M1 l = some (.lst ds0) ∧ EX B X e G M1 fun y M2 => ∃ ds, M2 l = some (.lst ds) ∧ ds.length < sizeLine ∧ Q .non (mupd M2 l (.lst (ds ++ [y])))) : EX B X (.Call (.Attribute o "append" apos) [e] [] pos) G M Q :=
  ex_bmC PySem.F.slot_list_append PySem.F.type_list_append hbase hfew hline hs hplain (h.imp fun d M1 ⟨l, ds0, e1, hm, q⟩ => ⟨l, ds0, e1, hm, ax_cons hs (q.imp fun y M2 ⟨ds, h2, hl, q2⟩ => ax_nil (mx_append h2 hl q2))⟩)
end
end FL

namespace FL
open PySem PySem.Spec PyProof.Rows L2
section
variable {B : Bs} {X : Cx} {a b c e o tg iter elt : Expr} {es : List Expr} {G G' : Sl} {M M' : Mem} {Q : D → Mem → Prop} {E : En} {pos p pos' : Pos} {F F1 : Hp} {σ : L2.St}
/-- a comprehension that changes no cell: f tells what an item comes to -/
def LcP (B : Bs) (X : Cx) (scope : Scope) (own : List Nat) (t : Tg) (ifs : List Expr) (elt : Expr) (G : Sl) (ds : List D) (M1 : Mem) (f : D → Option D) : Prop :=
  ds.length < sizeLine ∧ ∀ (d : D) (M' : Mem), d ∈ ds → (∀ a o, M1 a = some o → M' a = some o) → TgD t d fun dvs => Bk X scope fun X' => TXs B X' ifs (gsetAll (gwipe G own) t.slots dvs) M' fun b M3 =>
      if b = true then Bk X scope fun X2 => EX B X2 elt (gsetAll (gwipe G own) t.slots dvs) M3 fun y M4 => M4 = M' ∧ f d = some y else M3 = M' ∧ f d = none
theorem ex_lcp {scope : Scope} {own : List (Str × Nat)} {t : Tg} {ifs : List Expr} (f : D → Option D) (hc : X.calm = true) (hN : X.N.Nodup) (ok : BlkOk X.N X.env.scope scope own) (ht : ∀ i ∈ t.slots, i ∈ own.map (·.2))
    (hg : Bk X scope fun X' => PG X' tg (gTg X.K t)) (hs : ∀ x, foldedSetIterable iter X.env x = pure x)
    (h : LX B X tg iter G M fun ds M1 => LcP B X scope (own.map (·.2)) t ifs elt G ds M1 f ∧ Q (.lst (ds.filterMap f)) M1) : EX B X (.ListComp elt [⟨tg, iter, ifs, 0⟩] scope pos) G M Q :=
  ex_lc (Q := Q) hc hN ok ht hg hs fun F σ H R' r k => h F σ H R' r fun J H' F' ds M1 ⟨lp, q⟩ s r' w => k J H' F' ds M1 (lc_pure (fin := fun acc M2 => Q (.lst acc) M2) f lp.1 (fun i d M' hd hm => lp.2 d M' (List.mem_of_getElem? hd) hm) q) s r' w
/-- .. its list a cell -/
theorem ex_lcpM {scope : Scope} {own : List (Str × Nat)} {t : Tg} {ifs : List Expr} (f : D → Option D) (hc : X.calm = true) (hN : X.N.Nodup) (ok : BlkOk X.N X.env.scope scope own) (ht : ∀ i ∈ t.slots, i ∈ own.map (·.2))
    (hg : Bk X scope fun X' => PG X' tg (gTg X.K t)) (hs : ∀ x, foldedSetIterable iter X.env x = pure x)
    (h : LX B X tg iter G M fun ds M1 => LcP B X scope (own.map (·.2)) t ifs elt G ds M1 f ∧ ∀ l, M1 l = none → Q (.ref l) (mupd M1 l (.lst (ds.filterMap f)))) : EX B X (.ListComp elt [⟨tg, iter, ifs, 0⟩] scope pos) G M Q :=
  ex_lcM (Q := Q) hc hN ok ht hg hs fun F σ H R' r k => h F σ H R' r fun J H' F' ds M1 ⟨lp, q⟩ s r' w => k J H' F' ds M1 (fun L hL => by
    obtain ⟨I, i0, turn, fin⟩ := lc_pure (fin := fun acc M2 => acc = ds.filterMap f ∧ M2 = M1) f lp.1 (fun i d M' hd hm => lp.2 d M' (List.mem_of_getElem? hd) hm) ⟨rfl, rfl⟩ L hL
    refine ⟨I, i0, turn, fun acc M' hI hM => ?_⟩
    obtain ⟨ea, eM⟩ := fin acc M' hI hM
    have e2 : M' = mupd M1 L (.lst acc) := by
      funext b
      unfold mupd
      by_cases hb : b = L
      · subst hb; rw [if_pos rfl]; exact hM
      · rw [if_neg hb, ← eM]; unfold mdel; rw [if_neg hb]
    rw [e2, ea]
    exact q L hL) s r' w
/-- name = a comprehension that changes no cell -/
theorem sx_setLcp {i : Nat} {y : Str} {py spos : Pos} {scope : Scope} {own : List (Str × Nat)} {t : Tg} {ifs : List Expr} (f : D → Option D) (hc : X.calm = true) (hN : X.N.Nodup) (hy : X.N[i]? = some y) (hyl : X.env.scope.names.lookup y = some .local)
    (hsw : swapsWith (.ListComp elt [⟨tg, iter, ifs, 0⟩] scope pos) (some (.Name y py)) spos.line X.env = pure true) (ok : BlkOk X.N X.env.scope scope own) (ht : ∀ i ∈ t.slots, i ∈ own.map (·.2))
    (hg : Bk X scope fun X' => PG X' tg (gTg X.K t)) (hs : ∀ x, foldedSetIterable iter X.env x = pure x)
    (h : LX B X tg iter G M fun ds M1 => LcP B X scope (own.map (·.2)) t ifs elt G ds M1 f ∧ E.nx (G.set i (some (.lst (ds.filterMap f)))) M1) : SX B X (.Assign [.Name y py] (.ListComp elt [⟨tg, iter, ifs, 0⟩] scope pos) spos) E G M :=
  sx_setLc hc hN hy hyl hsw ok ht hg hs fun F σ H R' r k => h F σ H R' r fun J H' F' ds M1 ⟨lp, q⟩ s r' w => k J H' F' ds M1 (lc_pure (fin := fun acc M2 => E.nx (G.set i (some (.lst acc))) M2) f lp.1 (fun i d M' hd hm => lp.2 d M' (List.mem_of_getElem? hd) hm) q) s r' w
end
theorem txs_nil {B : Bs} {X : Cx} {G : Sl} {M : Mem} {Q : Bool → Mem → Prop} (h : Q true M) : TXs B X [] G M Q := h
theorem txs_one {B : Bs} {X : Cx} {c : Expr} {G : Sl} {M : Mem} {Q : Bool → Mem → Prop} (h : TX B X c G M Q) : TXs B X [c] G M Q := h
/-! ### typed lists -/
theorem filterMap_enc {α : Type} {enc : α → D} {f : D → Option D} {g : α → D} : ∀ {xs : List α}, (∀ x ∈ xs, f (enc x) = some (g x)) → (xs.map enc).filterMap f = xs.map g
  | [], _ => rfl
  | x :: xs, h => by
    rw [List.map_cons, List.filterMap_cons, h x (by simp), List.map_cons, filterMap_enc fun y hy => h y (List.mem_cons_of_mem _ hy)]
theorem str_empty_app (x : Str) : Str.empty ++ x = x := by
  cases x with
  | mk c =>
    show Str.mk (_ ++ c) = Str.mk c
    congr 1
    exact Array.empty_append
end FL

/-! == of data that may be laid -/
namespace FL
open PySem PySem.Spec PyProof.Rows L2
mutual
def D.okE : D → Bool
  | .non => true | .bl _ => true | .int _ => true | .str x => PyData.strOk x | .tup ds => okEs ds | .lst ds => okEs ds
  | .ref _ => false | .ty _ => false | .dK _ => false | .dT _ => false
def okEs : List D → Bool
  | [] => true
  | d :: ds => d.okE && okEs ds
end
mutual
def D.dep : D → Nat
  | .tup ds => deps ds + 1 | .lst ds => deps ds + 1
  | .non => 0 | .bl _ => 0 | .int _ => 0 | .str _ => 0 | .ref _ => 0 | .ty _ => 0 | .dK _ => 0 | .dT _ => 0
def deps : List D → Nat
  | [] => 0
  | d :: ds => max d.dep (deps ds)
end
mutual
theorem okE_py : ∀ d : D, d.okE = true → d.isPy = true ∧ d.py.canLay0 = true
  | .non, _ => ⟨by unfold D.isPy; rfl, by unfold D.py; rfl⟩
  | .bl _, _ => ⟨by unfold D.isPy; rfl, by unfold D.py; rfl⟩
  | .int _, _ => ⟨by unfold D.isPy; rfl, by unfold D.py; rfl⟩
  | .str x, h => ⟨by unfold D.isPy; rfl, by unfold D.okE at h; unfold D.py PyData.canLay0; exact h⟩
  | .tup ds, h => by
    unfold D.okE at h
    unfold D.isPy D.py PyData.canLay0
    exact okEs_py ds h
  | .lst ds, h => by
    unfold D.okE at h
    unfold D.isPy D.py PyData.canLay0
    exact okEs_py ds h
  | .ref _, h => by unfold D.okE at h; cases h
  | .ty _, h => by unfold D.okE at h; cases h
  | .dK _, h => by unfold D.okE at h; cases h
  | .dT _, h => by unfold D.okE at h; cases h
theorem okEs_py : ∀ ds : List D, okEs ds = true → arePy ds = true ∧ PyData.canLayAll0 (pys ds) = true
  | [], _ => ⟨by unfold arePy; rfl, by unfold pys PyData.canLayAll0; rfl⟩
  | d :: ds, h => by
    unfold okEs at h
    obtain ⟨h1, h2⟩ := Bool.and_eq_true_iff.mp h
    obtain ⟨a1, a2⟩ := okE_py d h1
    obtain ⟨b1, b2⟩ := okEs_py ds h2
    unfold arePy pys PyData.canLayAll0
    rw [a1, b1, a2, b2]
    exact ⟨rfl, rfl⟩
end
mutual
theorem dep_py : ∀ d : D, d.py.depth ≤ d.dep
  | .non => by unfold D.py PyData.depth; exact Nat.zero_le _
  | .bl _ => by unfold D.py PyData.depth; exact Nat.zero_le _
  | .int _ => by unfold D.py PyData.depth; exact Nat.zero_le _
  | .str _ => by unfold D.py PyData.depth; exact Nat.zero_le _
  | .ref _ => by unfold D.py PyData.depth; exact Nat.zero_le _
  | .ty _ => by unfold D.py PyData.depth; exact Nat.zero_le _
  | .dK _ => by unfold D.py PyData.depth; exact Nat.zero_le _
  | .dT _ => by unfold D.py PyData.depth; exact Nat.zero_le _
  | .tup ds => by unfold D.py PyData.depth D.dep; exact Nat.succ_le_succ (deps_py ds)
  | .lst ds => by unfold D.py PyData.depth D.dep; exact Nat.succ_le_succ (deps_py ds)
theorem deps_py : ∀ ds : List D, PyData.depthAll (pys ds) ≤ deps ds
  | [] => by unfold pys PyData.depthAll; exact Nat.zero_le _
  | d :: ds => by
    have h1 := dep_py d
    have h2 := deps_py ds
    unfold pys PyData.depthAll deps
    omega
end
theorem okEq_of {d : D} (h : d.okE = true) (hd : d.dep ≤ 64) : d.okEq = true := by
  obtain ⟨h1, h2⟩ := okE_py d h
  have h3 := dep_py d
  unfold D.okEq SeqAt.shaped
  rw [h1, h2, decide_eq_true (Nat.le_trans h3 hd)]
  rfl
theorem okEs_all {ds : List D} : okEs ds = true ↔ ∀ d ∈ ds, d.okE = true := by
  induction ds with
  | nil => unfold okEs; simp
  | cons d ds ih => unfold okEs; rw [Bool.and_eq_true_iff, ih]; simp
theorem deps_le {ds : List D} {n : Nat} : deps ds ≤ n ↔ ∀ d ∈ ds, d.dep ≤ n := by
  induction ds with
  | nil => unfold deps; simp
  | cons d ds ih =>
    unfold deps
    rw [Nat.max_le, ih]
    simp
theorem okEq_lst {ds : List D} {n : Nat} (h : ∀ d ∈ ds, d.okE = true ∧ d.dep ≤ n) (hn : n < 64) : (D.lst ds).okEq = true := by
  refine okEq_of ?_ ?_
  · unfold D.okE; exact okEs_all.mpr fun d hd => (h d hd).1
  · unfold D.dep
    have := deps_le.mpr fun d hd => (h d hd).2
    omega
theorem okEq_tup {ds : List D} {n : Nat} (h : ∀ d ∈ ds, d.okE = true ∧ d.dep ≤ n) (hn : n < 64) : (D.tup ds).okEq = true := by
  refine okEq_of ?_ ?_
  · unfold D.okE; exact okEs_all.mpr fun d hd => (h d hd).1
  · unfold D.dep
    have := deps_le.mpr fun d hd => (h d hd).2
    omega
theorem okEq_nil : (D.lst []).okEq = true := okEq_lst (n := 0) (by simp) (by decide)
def eqDs (ds es : List D) : Bool := PyData.eqvAll (pys ds) (pys es)
theorem eqD_lst (ds es : List D) : eqD (.lst ds) (.lst es) = eqDs ds es := by unfold eqD D.py PyData.eqv; rfl
theorem eqD_tup (ds es : List D) : eqD (.tup ds) (.tup es) = eqDs ds es := by unfold eqD D.py PyData.eqv; rfl
theorem eqD_int (i j : Int) : eqD (.int i) (.int j) = (i == j) := by unfold eqD D.py PyData.eqv; rfl
theorem eqD_str (x y : Str) : eqD (.str x) (.str y) = (x == y) := by unfold eqD D.py PyData.eqv; rfl
theorem eqDs_nil : eqDs [] [] = true := by unfold eqDs pys PyData.eqvAll; rfl
theorem eqDs_cons (d e : D) (ds es : List D) : eqDs (d :: ds) (e :: es) = (eqD d e && eqDs ds es) := by unfold eqDs; rw [pys, pys, PyData.eqvAll]; rfl
theorem eqDs_cn (d : D) (ds : List D) : eqDs (d :: ds) [] = false := by unfold eqDs; rw [pys, pys, PyData.eqvAll]
theorem eqDs_nc (d : D) (ds : List D) : eqDs [] (d :: ds) = false := by unfold eqDs; rw [pys, pys, PyData.eqvAll]
theorem eqDs_nil_r : ∀ ds : List D, eqDs ds [] = ds.isEmpty
  | [] => eqDs_nil
  | d :: ds => eqDs_cn d ds
theorem eqDs_enc {α : Type} [DecidableEq α] {enc : α → D} (h : ∀ x y, eqD (enc x) (enc y) = decide (x = y)) : ∀ xs ys : List α, eqDs (xs.map enc) (ys.map enc) = decide (xs = ys)
  | [], [] => eqDs_nil
  | [], y :: ys => by rw [List.map_cons]; exact (eqDs_nc _ _).trans (decide_eq_false (by simp)).symm
  | x :: xs, [] => by rw [List.map_cons]; exact (eqDs_cn _ _).trans (decide_eq_false (by simp)).symm
  | x :: xs, y :: ys => by
    rw [List.map_cons, List.map_cons, eqDs_cons, h, eqDs_enc h xs ys]
    by_cases e1 : x = y
    · by_cases e2 : xs = ys <;> simp [e1, e2]
    · simp [e1]
theorem eqD_int' (i j : Int) : eqD (.int i) (.int j) = decide (i = j) := by rw [eqD_int]; exact Bool.beq_eq_decide_eq i j
theorem eqD_str' (x y : Str) : eqD (.str x) (.str y) = decide (x = y) := by rw [eqD_str]; exact Bool.beq_eq_decide_eq x y
section
variable {B : Bs} {X : Cx} {G : Sl} {M : Mem} {Q : D → Mem → Prop} {d : D} {pos : Pos}
/-- compared with [] -/
theorem ex_cmp0 {op : CmpOp} (h : OX B X (compareOp op) d (.lst []) G M Q) : EX B X (.List [] pos) G M fun y M2 => OX B X (compareOp op) d y G M2 Q := ex_lst (ax_nil ⟨Nat.zero_le _, h⟩)
theorem ox_ne0 {ds : List D} {n : Nat} (hu : X.A.units + 64 < cLine) (h : ∀ d ∈ ds, d.okE = true ∧ d.dep ≤ n) (hn : n < 64) (q : Q (.bl (!ds.isEmpty)) M) : OX B X (compareOp .NotEq) (.lst ds) (.lst []) G M Q :=
  ox_neD hu (okEq_lst h hn) okEq_nil (by rw [eqD_lst, eqDs_nil_r]; exact q)
theorem ox_eq0 {ds : List D} {n : Nat} (hu : X.A.units + 64 < cLine) (h : ∀ d ∈ ds, d.okE = true ∧ d.dep ≤ n) (hn : n < 64) (q : Q (.bl ds.isEmpty) M) : OX B X (compareOp .Eq) (.lst ds) (.lst []) G M Q :=
  ox_eqD hu (okEq_lst h hn) okEq_nil (by rw [eqD_lst, eqDs_nil_r]; exact q)
end
end FL

/-! the head by facts, over data -/
namespace FL
open PySem PySem.Spec PyProof.Rows L2
theorem fun_of {K : PySem.W.Frag} {x qual : Str} {st : Stmt} {f : Addr} {fd : FuncData} (F : FunD K x qual (defArgs st) (defBody st) (defScope st) [] [] f fd) : Fun K x qual st f fd := by
  obtain ⟨oc, od, dV, kV, doc, pm, an, cdv, ct, osl, e, lk, hcd, hD, hK⟩ := F.ex
  rcases hD with ⟨_, rfl⟩ | ⟨z, _⟩
  · exact ⟨⟨oc, od, kV, doc, pm, an, cdv, ct, osl, e, lk, hcd⟩, F.kp⟩
  · exact absurd rfl z
def defAt (p : Str × Option Str) (name qual : Str) (st : Stmt) : He.DefD := ⟨p, name, qual, defArgs st, defBody st, defScope st, [], []⟩
/-- the law: at every script it tells True -/
def spTrue : DSp := fun ds M Q => ∃ ns : List Int, ds = [.lst (ns.map D.int)] ∧ ns.length ≤ 63 ∧ M = noM ∧ ∀ M', Q (.bl true) M'
theorem law_sp {K : PySem.W.Frag} {H : Hp} {a : Addr} {ns : List Int} {E : XK} (hl : ns.length ≤ 63) (hS : SqL K H a (ns.map V.int)) : lift K spTrue [.ref a] H (fun v _ => v = .bl true) E :=
  ⟨H, [.lst (ns.map D.int)], noM, fun d _ => d = .bl true, .cons (.lst hS RpAll.ints) .nil, Same.refl H, (fun a o z => by cases z), ⟨ns, rfl, hl, rfl, fun _ => rfl⟩, fun d M' e v H' F' _ _ _ _ rp => by subst e; cases rp; rfl⟩
section
variable {K : PySem.W.Frag} {h : Heap} {mg : Str → Option Value} (X : K.In h) (G : h.Ns mainGlobals mg)
include X G
theorem cst_int {x : Str} {i : Int} (c : (He.Fa.int x i).ok K = true) : Cst K mg x (.int i) := by
  obtain ⟨t, e⟩ := He.int_ok X G c
  exact ⟨_, .int i, e, ⟨t, rfl⟩, fun F => .int i⟩
theorem cst_str {x z : Str} (c : (He.Fa.str x z).ok K = true) : Cst K mg x (.str z) := by
  obtain ⟨t, e⟩ := He.str_ok X G c
  exact ⟨_, .str z, e, ⟨t, rfl⟩, fun F => .str z⟩
theorem cst_tup {x : Str} {zs : List Str} (c : (He.Fa.glo x).ok K = true) (t : He.tupB K x (zs.map He.Dv.str) = true) : Cst K mg x (.tup (zs.map D.str)) := by
  refine ⟨_, .ref (He.ga K x), He.glo_ok X G c, rfl, fun F => ?_⟩
  have e : (zs.map He.Dv.str).map (He.Dv.v K) = zs.map V.str := by
    rw [List.map_map]; rfl
  have s := He.tupB_ok t F
  rw [e] at s
  exact .tup s RpAll.strs
end
theorem dfn_mk {P : Program} {w : World} {K : PySem.W.Frag} {mg : Str → Option Value} {base : Heap} {k : Nat} {x : Str} {sp : DSp} {f : Addr} {fd : FuncData} {ps : List Str} (h : FnOk P w K mg base CX0 k f fd ps (lift K sp)) (g : mg x = some (.ref f)) (kp : PySem.W.keepIn K (.ref f) = true) (b : Binds K fd ps []) : Dfn P w K mg base k x sp := ⟨f, fd, ps, h, g, kp, b⟩
end FL

namespace FL
open PySem PySem.Spec PyProof.Rows L2
mutual
/-- data that may be compared place by place -/
def D.okA : D → Bool
  | .non => true | .bl _ => true | .int _ => true | .str _ => true
  | .tup ds => decide (ds.length ≤ 100000) && okAs ds
  | .lst ds => decide (ds.length ≤ 100000) && okAs ds
  | .ref _ => false | .ty _ => false | .dK _ => false | .dT _ => false
def okAs : List D → Bool
  | [] => true
  | d :: ds => d.okA && okAs ds
end
theorem okAs_all {ds : List D} : okAs ds = true ↔ ∀ d ∈ ds, d.okA = true := by
  induction ds with
  | nil => unfold okAs; simp
  | cons d ds ih => unfold okAs; rw [Bool.and_eq_true_iff, ih]; simp
theorem okA_tup {ds : List D} (hl : ds.length ≤ 100000) (h : ∀ d ∈ ds, d.okA = true) : (D.tup ds).okA = true := by
  unfold D.okA; rw [decide_eq_true hl, okAs_all.mpr h]; rfl
theorem okA_lst {ds : List D} (hl : ds.length ≤ 100000) (h : ∀ d ∈ ds, d.okA = true) : (D.lst ds).okA = true := by
  unfold D.okA; rw [decide_eq_true hl, okAs_all.mpr h]; rfl
theorem okA_tup' {ds : List D} (h : (D.tup ds).okA = true) : ds.length ≤ 100000 ∧ ∀ d ∈ ds, d.okA = true := by
  unfold D.okA at h
  obtain ⟨h1, h2⟩ := Bool.and_eq_true_iff.mp h
  exact ⟨of_decide_eq_true h1, okAs_all.mp h2⟩
theorem okA_lst' {ds : List D} (h : (D.lst ds).okA = true) : ds.length ≤ 100000 ∧ ∀ d ∈ ds, d.okA = true := by
  unfold D.okA at h
  obtain ⟨h1, h2⟩ := Bool.and_eq_true_iff.mp h
  exact ⟨of_decide_eq_true h1, okAs_all.mp h2⟩
theorem dep_tup {ds : List D} {n : Nat} : (D.tup ds).dep ≤ n ↔ 1 ≤ n ∧ ∀ d ∈ ds, d.dep ≤ n - 1 := by
  have e : (D.tup ds).dep = deps ds + 1 := by unfold D.dep; rfl
  rw [e, ← deps_le]
  omega
theorem dep_lst {ds : List D} {n : Nat} : (D.lst ds).dep ≤ n ↔ 1 ≤ n ∧ ∀ d ∈ ds, d.dep ≤ n - 1 := by
  have e : (D.lst ds).dep = deps ds + 1 := by unfold D.dep; rfl
  rw [e, ← deps_le]
  omega
theorem okA_tyd {d : D} (h : d.okA = true) : d.tyd = true := by
  cases d <;> first | rfl | (unfold D.okA at h; cases h)
theorem filterMap_none {ds : List D} : ds.filterMap (fun _ => (none : Option D)) = [] := by
  induction ds with
  | nil => rfl
  | cons d ds ih => simpa using ih
section
variable {CX : CXT} {P : Program} {w : World} {K : PySem.W.Frag} {mg : Str → Option Value} {base : Heap} {N : List Str} {qual : Str} {sc : Scope} {f : Addr} {cdv : Value} {A : Around} {outer : List Env} {s : Shared} {H : Hp} {E : XK} {x : Str}
theorem Blt.fn {v : Value} (m : mg x = none) (g : Gl (cxOf CX P w K mg base N qual sc f cdv A outer s H E).nox x) (b : bootBuiltins x = some v) (n : x ≠ "__name__" := by decide) (d : (x == ("__debug__" : Str)) = false := by decide) : Blt (cxOf CX P w K mg base N qual sc f cdv A outer s H E).nox x v := ⟨g, m, b, n, d⟩
theorem Gb.fn {d : D} (m : Cst K mg x d) (g : Gl (cxOf CX P w K mg base N qual sc f cdv A outer s H E).nox x) (hd : (x == ("__debug__" : Str)) = false := by decide) : Gb (cxOf CX P w K mg base N qual sc f cdv A outer s H E).nox x d := ⟨g, m, hd⟩
theorem Dfn.fn {k : Nat} {sp : DSp} (h : Dfn P w K mg base k x sp) : Dfn (cxOf CX P w K mg base N qual sc f cdv A outer s H E).nox.prog (cxOf CX P w K mg base N qual sc f cdv A outer s H E).nox.w (cxOf CX P w K mg base N qual sc f cdv A outer s H E).nox.K (cxOf CX P w K mg base N qual sc f cdv A outer s H E).nox.mg (cxOf CX P w K mg base N qual sc f cdv A outer s H E).nox.base k x sp := h
variable {s1 : Shared} {H1 : Hp} {sc1 : Scope} {cenv : Env} {fp : List Addr}
theorem Blt.fnb {v : Value} (m : mg x = none) (g : Gl ((cxOf CX P w K mg base N qual sc f cdv A outer s H E).nox.blk s1 H1 sc1 cenv fp) x) (b : bootBuiltins x = some v) (n : x ≠ "__name__" := by decide) (d : (x == ("__debug__" : Str)) = false := by decide) : Blt ((cxOf CX P w K mg base N qual sc f cdv A outer s H E).nox.blk s1 H1 sc1 cenv fp) x v := ⟨g, m, b, n, d⟩
theorem Gb.fnb {d : D} (m : Cst K mg x d) (g : Gl ((cxOf CX P w K mg base N qual sc f cdv A outer s H E).nox.blk s1 H1 sc1 cenv fp) x) (hd : (x == ("__debug__" : Str)) = false := by decide) : Gb ((cxOf CX P w K mg base N qual sc f cdv A outer s H E).nox.blk s1 H1 sc1 cenv fp) x d := ⟨g, m, hd⟩
theorem Dfn.fnb {k : Nat} {sp : DSp} (h : Dfn P w K mg base k x sp) : Dfn ((cxOf CX P w K mg base N qual sc f cdv A outer s H E).nox.blk s1 H1 sc1 cenv fp).prog ((cxOf CX P w K mg base N qual sc f cdv A outer s H E).nox.blk s1 H1 sc1 cenv fp).w ((cxOf CX P w K mg base N qual sc f cdv A outer s H E).nox.blk s1 H1 sc1 cenv fp).K ((cxOf CX P w K mg base N qual sc f cdv A outer s H E).nox.blk s1 H1 sc1 cenv fp).mg ((cxOf CX P w K mg base N qual sc f cdv A outer s H E).nox.blk s1 H1 sc1 cenv fp).base k x sp := h
end
theorem Dfn.blk {X : Cx} {k : Nat} {x : Str} {sp : DSp} {s : Shared} {H : Hp} {scope : Scope} {cenv : Env} {fp : List Addr} (h : Dfn X.prog X.w X.K X.mg X.base k x sp) : Dfn (X.blk s H scope cenv fp).prog (X.blk s H scope cenv fp).w (X.blk s H scope cenv fp).K (X.blk s H scope cenv fp).mg (X.blk s H scope cenv fp).base k x sp := h
section
variable {B : Bs} {X : Cx} {G : Sl} {M : Mem} {Q : D → Mem → Prop}
theorem ex_subL {es : List Expr} {b : Expr} {p pos : Pos} (hs : PlainIx b) (h : AX B X es G M fun xs M1 => xs.length ≤ sizeLine ∧ EX B X b G M1 fun y M2 => IX B X (.lst xs) y G M2 Q) : EX B X (.Subscript (.List es p) b pos) G M Q := ex_sub hs (ex_lst h)
/-- an item at a drawn place -/
theorem ix_lm {ds : List D} {i : Int} (h0 : 0 ≤ i) (h1 : i < ds.length) (q : ∀ d, d ∈ ds → Q d M) : IX B X (.lst ds) (.int i) G M Q := by
  obtain ⟨j, rfl⟩ : ∃ j : Nat, i = (j : Int) := ⟨i.toNat, by omega⟩
  have hj : j < ds.length := by omega
  exact ix_l (d := ds[j]) (atI_of rfl (List.getElem?_eq_getElem hj)) (q _ (List.getElem_mem hj))
theorem ix_tm {ds : List D} {i : Int} (h0 : 0 ≤ i) (h1 : i < ds.length) (q : ∀ d, d ∈ ds → Q d M) : IX B X (.tup ds) (.int i) G M Q := by
  obtain ⟨j, rfl⟩ : ∃ j : Nat, i = (j : Int) := ⟨i.toNat, by omega⟩
  have hj : j < ds.length := by omega
  exact ix_t (d := ds[j]) (atI_of rfl (List.getElem?_eq_getElem hj)) (q _ (List.getElem_mem hj))
theorem ix_li {ns : List Int} {i : Int} (h0 : 0 ≤ i) (h1 : i < ns.length) (q : ∀ n, n ∈ ns → Q (.int n) M) : IX B X (.lst (ns.map D.int)) (.int i) G M Q :=
  ix_lm h0 (by rw [List.length_map]; exact h1) fun d hd => by
    obtain ⟨n, hn, rfl⟩ := List.mem_map.mp hd
    exact q n hn
theorem ix_ls {ns : List Str} {i : Int} (h0 : 0 ≤ i) (h1 : i < ns.length) (q : ∀ n, n ∈ ns → Q (.str n) M) : IX B X (.lst (ns.map D.str)) (.int i) G M Q :=
  ix_lm h0 (by rw [List.length_map]; exact h1) fun d hd => by
    obtain ⟨n, hn, rfl⟩ := List.mem_map.mp hd
    exact q n hn
end
end FL

namespace FL
open PySem PySem.Spec PyProof.Rows L2
/-- the promise of a def that only reads the cells, and tells what is immutable -/
def roSp (sp : DSp) : DSp := fun ds M Q => ∃ es Qd, DeepAll M ds es ∧ sp es noM Qd ∧ ∀ d M', Qd d M' → d.imm = true ∧ Q d M
theorem lift_roSp {K : PySem.W.Frag} {sp : DSp} {vs : List V} {H : Hp} {Q : VK} {E : XK} (h : lift K (roSp sp) vs H Q E) : lift K sp vs H Q E := by
  obtain ⟨F, ds, M, Qd, p, ex, me, ⟨es, Qe, dp, q, hq⟩, kk⟩ := h
  have r : R ⟨F, M, H⟩ K F [] H [] M := ⟨⟨rfl, by simp⟩, ex, me, Same.refl F, Kp.refl M H⟩
  refine ⟨H, es, noM, Qe, dp.rp r p, Same.refl H, (fun _ _ z => by cases z), q, fun d M' qd v H' F' s' k' e' m' rp => ?_⟩
  obtain ⟨hi, hd⟩ := hq d M' qd
  have hs : Same H H' := fun a u h => (k' a u h rfl).1
  obtain ⟨F2, s2, r2, p2⟩ := rp.take_in e' hi (r.heap hs)
  exact kk d M hd v H' F2 r2.bf r2.bk r2.ex r2.mem p2
theorem Dfn.ro {P : Program} {w : World} {K : PySem.W.Frag} {mg : Str → Option Value} {base : Heap} {k : Nat} {x : Str} {sp : DSp} (h : Dfn P w K mg base k x sp) : Dfn P w K mg base k x (roSp sp) := by
  obtain ⟨f, fd, ps, F, m, kp, b⟩ := h.ex
  exact ⟨f, fd, ps, F.imp fun vs H Q E h => lift_roSp h, m, kp, b⟩
theorem ro1 {sp : DSp} {ds es : List D} {M : Mem} {Q : D → Mem → Prop} (d0 : D) (dp : DeepAll M ds es) (q : sp es noM fun d _ => d = d0) (hi : d0.imm = true) (k : Q d0 M) : roSp sp ds M Q :=
  ⟨es, _, dp, q, fun d M' e => by subst e; exact ⟨hi, k⟩⟩
theorem eqD_self {d : D} (h : d.okE = true) : eqD d d = true := SeqAt.eqv_refl _ (okE_py d h).2
end FL

namespace Lw
open PySem PySem.Spec PyProof.Rows L2 FL
local macro_rules | `(tactic| wtm_at "c") => `(tactic| first
  | ((with_reducible refine' ex_callB ?c ?he ?hp ?q); (case c => first | with_reducible assumption | exact Blt.fn (by with_reducible assumption) rfl (by first | with_reducible exact bb_len | with_reducible exact bb_isinstance | with_reducible exact bb_max | with_reducible exact bb_min | with_reducible exact bb_sorted)); (case he => rfl); (case hp => rfl))
  | ((with_reducible refine' ex_callTy ?c ?he ?hp ?q); (case c => first | with_reducible assumption | exact Blt.fn (by with_reducible assumption) rfl (by first | with_reducible exact bb_int | with_reducible exact bb_bool | with_reducible exact bb_str | with_reducible exact bb_tuple | with_reducible exact bb_list | with_reducible exact bb_dict | with_reducible exact bb_set)); (case he => rfl); (case hp => rfl))
  | ((with_reducible refine' ex_call ?c ?hr ?hg ?hd ?he ?hp ?q); (case c => first | with_reducible assumption | exact Dfn.fn (by with_reducible assumption)); (case hr => first | assumption | exact Room.mono (by assumption) (by decide)); (case hg => rfl); (case hd => rfl); (case he => rfl); (case hp => rfl))
  | ((with_reducible refine' ex_ty ?c ?q); (case c => first | with_reducible assumption | exact Blt.fn (by with_reducible assumption) rfl (by first | with_reducible exact bb_int | with_reducible exact bb_bool | with_reducible exact bb_str | with_reducible exact bb_tuple | with_reducible exact bb_list | with_reducible exact bb_dict | with_reducible exact bb_set)))
  | ((with_reducible refine' ex_glob ?c ?q); (case c => first | with_reducible assumption | exact Gb.fn (by with_reducible assumption) rfl)))
local macro_rules | `(tactic| wtm_at "cb") => `(tactic| first
  | ((with_reducible refine' ex_callB ?c ?he ?hp ?q); (case c => first | exact Blt.blk (by with_reducible assumption) rfl | exact Blt.fnb (by with_reducible assumption) rfl (by first | with_reducible exact bb_len | with_reducible exact bb_isinstance | with_reducible exact bb_max | with_reducible exact bb_min | with_reducible exact bb_sorted)); (case he => rfl); (case hp => rfl))
  | ((with_reducible refine' ex_callTy ?c ?he ?hp ?q); (case c => first | exact Blt.blk (by with_reducible assumption) rfl | exact Blt.fnb (by with_reducible assumption) rfl (by first | with_reducible exact bb_int | with_reducible exact bb_bool | with_reducible exact bb_str | with_reducible exact bb_tuple | with_reducible exact bb_list | with_reducible exact bb_dict | with_reducible exact bb_set)); (case he => rfl); (case hp => rfl))
  | ((with_reducible refine' ex_call ?c ?hr ?hg ?hd ?he ?hp ?q); (case c => first | exact Dfn.blk (by with_reducible assumption) | exact Dfn.fnb (by with_reducible assumption)); (case hr => first | assumption | exact Room.mono (by assumption) (by decide)); (case hg => rfl); (case hd => rfl); (case he => rfl); (case hp => rfl))
  | ((with_reducible refine' ex_ty ?c ?q); (case c => first | exact Blt.blk (by with_reducible assumption) rfl | exact Blt.fnb (by with_reducible assumption) rfl (by first | with_reducible exact bb_int | with_reducible exact bb_bool | with_reducible exact bb_str | with_reducible exact bb_tuple | with_reducible exact bb_list | with_reducible exact bb_dict | with_reducible exact bb_set)))
  | ((with_reducible refine' ex_glob ?c ?q); (case c => first | exact Gb.blk (by with_reducible assumption) rfl | exact Gb.fnb (by with_reducible assumption) rfl)))
local macro_rules | `(tactic| wtm_at "e") => `(tactic| first
  | (with_reducible refine ex_int ?_) | (with_reducible refine ex_str ?_) | (with_reducible refine ex_bl ?_) | (with_reducible refine ex_non ?_)
  | (with_reducible refine ex_bin ?_) | (with_reducible refine asB_bl ?_)
  | ((with_reducible show (ite (_ = true) _ _)); first | refine iteT' rfl ?_ | refine iteF' rfl ?_)
  | ((with_reducible refine ex_sub ?h ?q); (case h => exact fun _ _ => rfl))
  | ((with_reducible refine tx_cmp ?h ?q); (case h => first | exact nomark _ | rfl))
  | ((with_reducible refine tx_chain ?h ?q); (case h => with_unfolding_all rfl))
  | ((with_reducible refine ex_cmp ?h ?q); (case h => first | exact nomark _ | rfl))
  | ((with_reducible refine ex_chain ?h ?q); (case h => with_unfolding_all rfl))
  | (with_reducible refine tx_not ?_) | (with_reducible refine tw_and ?_) | (with_reducible refine tw_and1 ?_) | (with_reducible refine tw_or ?_) | (with_reducible refine tw_or1 ?_)
  | ((with_reducible show TX _ _ (.BoolOp _ _ _) _ _ _); refine TW.tx ?_)
  | ((with_reducible show TX _ _ (.Call _ _ _ _) _ _ _); refine tx_val (fun _ => rfl) ?_)
  | (with_reducible refine ex_one ?_) | (with_reducible refine ex_and ?_) | (with_reducible refine ex_or ?_) | (with_reducible refine ex_not ?_)
  | (with_reducible refine ex_if ?_)
  | ((with_reducible refine ax_cons ?h ?q); (case h => rfl))
  | (with_reducible refine ax_nil ?_)
  | (with_reducible refine ox_add ?_) | (with_reducible refine ox_sub ?_)
  | (with_reducible refine ox_lt ?_) | (with_reducible refine ox_le ?_) | (with_reducible refine ox_gt ?_) | (with_reducible refine ox_ge ?_)
  | (with_reducible refine ox_eqI ?_) | (with_reducible refine ox_neI ?_) | (with_reducible refine ox_eqS ?_) | (with_reducible refine ox_neS ?_) | (with_reducible refine ox_eqB ?_) | (with_reducible refine ox_neB ?_)
  | (with_reducible refine ox_is ?_) | (with_reducible refine ox_isnot ?_)
  | (with_reducible refine bx_lenL ?_) | (with_reducible refine bx_lenT ?_)
  | ((with_reducible refine bx_isiI ?h ?q); (case h => first | rfl | assumption))
  | ((with_reducible refine bx_isiB ?h ?q); (case h => first | rfl | assumption))
  | ((with_reducible refine bx_isiSt ?h ?q); (case h => first | rfl | assumption))
  | ((with_reducible refine bx_isiTu ?h ?q); (case h => first | rfl | assumption))
  | ((with_reducible refine bx_isiLi ?h ?q); (case h => first | rfl | assumption))
  | ((with_reducible refine bx_isiTL ?h ?q); (case h => first | rfl | assumption))
  | ((with_reducible refine ex_tup ?q)) | (with_reducible refine ex_cmp0 ?_)
  | (with_reducible refine sx_if ?_) | (with_reducible refine sx_ret ?_) | (with_reducible refine sx_retN ?_)
  | ((with_reducible refine sx_expr ?h ?q); (case h => rfl))
  | ((with_reducible refine gxs_cons ?h ?q); (case h => rfl)) | (with_reducible refine gxs_nil ?_)
  | ((with_reducible refine' gx_tup ?c ?l ?h ?g ?q); (case c => rfl); (case l => rfl); (case h => rfl); (case g => rfl))
  | (with_reducible refine sxs_one ?_) | (with_reducible refine sxs_cons ?_) | (with_reducible refine sxs_nil ?_)
  | ((with_reducible refine sx_asg ?h ?g ?i ?q); (case h => rfl); (case g => rfl); (case i => rfl)))
local macro_rules | `(tactic| wtm_at "b") => `(tactic| first | (refine sxs_one ?_) | (refine sxs_cons ?_))
local macro_rules | `(tactic| wtm_at "e2") => `(tactic| first
  | ((with_reducible refine ex_subL ?h ?q); (case h => exact fun _ _ => rfl))
  | ((with_reducible show (List.length _ ≤ sizeLine ∧ _)); refine And.intro (Nat.le_of_ble_eq_true rfl) ?_)
  | ((with_reducible show (ite ((!decide (_ = _)) = true) _ _)); (with_reducible refine ite_ndec (fun h => absurd rfl h) (fun _ => ?_)))
  | ((with_reducible show (ite (decide (_ = _) = true) _ _)); (with_reducible refine ite_dec (fun _ => ?_) (fun h => absurd rfl h)))
  | ((with_reducible show (IX _ _ (.tup _) (.int _) _ _ _)); refine ix_t rfl ?_)
  | ((with_reducible show (IX _ _ (.lst _) (.int _) _ _ _)); refine ix_l rfl ?_)
  | ((with_reducible show (IX _ _ (.ref _) (.int _) _ _ _)); refine ix_c (by first | with_reducible assumption | exact mupd_same) rfl ?_))

/-! the text by places -/
def top (i : Nat) : Stmt := PySem.Challenge.pw_faruplink_k16_written_and_read.main.body.getD i (.Pass ⟨0, 0, 0, 0⟩)
abbrev s_is_number : Stmt := top 5
abbrev n_is_number : List Str := ["part", "low", "high"]
theorem sc_is_number : FnScope n_is_number ["part", "low", "high"] (defScope s_is_number) := ⟨rfl, rfl, rfl, by decide +kernel, rfl, by decide +kernel, by decide +kernel⟩
theorem a_is_number_0 : atB n_is_number (defScope s_is_number) 0 "part" = true := by decide +kernel
theorem a_is_number_1 : atB n_is_number (defScope s_is_number) 1 "low" = true := by decide +kernel
theorem a_is_number_2 : atB n_is_number (defScope s_is_number) 2 "high" = true := by decide +kernel
local macro_rules | `(tactic| wtm_at "v is_number") => `(tactic| first
  | ((with_reducible refine' ex_var (i := 0) (x := "part") ?h ?g ?q); (case h => exact At.of rfl rfl a_is_number_0); (case g => rfl))
  | ((with_reducible refine' ex_var (i := 1) (x := "low") ?h ?g ?q); (case h => exact At.of rfl rfl a_is_number_1); (case g => rfl))
  | ((with_reducible refine' ex_var (i := 2) (x := "high") ?h ?g ?q); (case h => exact At.of rfl rfl a_is_number_2); (case g => rfl))
  | ((with_reducible refine sx_set (i := 0) (x := "part") ?h ?s ?q); (case h => exact Lc.of sc_is_number.nd rfl rfl (.inl rfl) a_is_number_0); (case s => rfl))
  | ((with_reducible refine gx_name (i := 0) (x := "part") ?h ?q); (case h => exact Lc.of sc_is_number.nd rfl rfl (.inl rfl) a_is_number_0))
  | ((with_reducible refine sx_set (i := 1) (x := "low") ?h ?s ?q); (case h => exact Lc.of sc_is_number.nd rfl rfl (.inl rfl) a_is_number_1); (case s => rfl))
  | ((with_reducible refine gx_name (i := 1) (x := "low") ?h ?q); (case h => exact Lc.of sc_is_number.nd rfl rfl (.inl rfl) a_is_number_1))
  | ((with_reducible refine sx_set (i := 2) (x := "high") ?h ?s ?q); (case h => exact Lc.of sc_is_number.nd rfl rfl (.inl rfl) a_is_number_2); (case s => rfl))
  | ((with_reducible refine gx_name (i := 2) (x := "high") ?h ?q); (case h => exact Lc.of sc_is_number.nd rfl rfl (.inl rfl) a_is_number_2)))
local macro_rules | `(tactic| wtm_at "vb is_number") => `(tactic| first
  | ((with_reducible refine' ex_var (i := 0) (x := "part") ?h ?g ?q); (case h => exact At.b rfl (by first | exact Or.inl rfl | exact Or.inr (Or.inl rfl) | exact Or.inr (Or.inr rfl))); (case g => rfl))
  | ((with_reducible refine' ex_var (i := 1) (x := "low") ?h ?g ?q); (case h => exact At.b rfl (by first | exact Or.inl rfl | exact Or.inr (Or.inl rfl) | exact Or.inr (Or.inr rfl))); (case g => rfl))
  | ((with_reducible refine' ex_var (i := 2) (x := "high") ?h ?g ?q); (case h => exact At.b rfl (by first | exact Or.inl rfl | exact Or.inr (Or.inl rfl) | exact Or.inr (Or.inr rfl))); (case g => rfl)))
local macro_rules | `(tactic| wtm_at "w is_number") => `(tactic| repeat (first | wtm_at "v is_number" | wtm_at "e" | wtm_at "c"))
local macro_rules | `(tactic| wtm_at "wb is_number") => `(tactic| repeat (first | wtm_at "vb is_number" | wtm_at "e" | wtm_at "cb"))
local macro_rules | `(tactic| wtm_at "g is_number") => `(tactic| repeat (first | wtm_at "v is_number" | wtm_at "e2" | wtm_at "e" | wtm_at "c"))
local macro_rules | `(tactic| wtm_at "gb is_number") => `(tactic| repeat (first | wtm_at "vb is_number" | wtm_at "e2" | wtm_at "e" | wtm_at "cb"))
abbrev X_is_number (P : Program) (w : World) (K : PySem.W.Frag) (mg : Str → Option Value) (base : Heap) (f : Addr) (cdv : Value) (A : Around) (outer : List Env) (s : Shared) (H : Hp) (E : XK) : Cx := (cxOf CX0 P w K mg base n_is_number "is_number" (defScope s_is_number) f cdv A outer s H E).nox
abbrev s_is_step : Stmt := top 11
abbrev n_is_step : List Str := ["step"]
theorem sc_is_step : FnScope n_is_step ["step"] (defScope s_is_step) := ⟨rfl, rfl, rfl, by decide +kernel, rfl, by decide +kernel, by decide +kernel⟩
theorem a_is_step_0 : atB n_is_step (defScope s_is_step) 0 "step" = true := by decide +kernel
local macro_rules | `(tactic| wtm_at "v is_step") => `(tactic| first
  | ((with_reducible refine' ex_var (i := 0) (x := "step") ?h ?g ?q); (case h => exact At.of rfl rfl a_is_step_0); (case g => rfl))
  | ((with_reducible refine sx_set (i := 0) (x := "step") ?h ?s ?q); (case h => exact Lc.of sc_is_step.nd rfl rfl (.inl rfl) a_is_step_0); (case s => rfl))
  | ((with_reducible refine gx_name (i := 0) (x := "step") ?h ?q); (case h => exact Lc.of sc_is_step.nd rfl rfl (.inl rfl) a_is_step_0)))
local macro_rules | `(tactic| wtm_at "vb is_step") => `(tactic| first
  | ((with_reducible refine' ex_var (i := 0) (x := "step") ?h ?g ?q); (case h => exact At.b rfl (by first | exact Or.inl rfl | exact Or.inr (Or.inl rfl) | exact Or.inr (Or.inr rfl))); (case g => rfl)))
local macro_rules | `(tactic| wtm_at "w is_step") => `(tactic| repeat (first | wtm_at "v is_step" | wtm_at "e" | wtm_at "c"))
local macro_rules | `(tactic| wtm_at "wb is_step") => `(tactic| repeat (first | wtm_at "vb is_step" | wtm_at "e" | wtm_at "cb"))
local macro_rules | `(tactic| wtm_at "g is_step") => `(tactic| repeat (first | wtm_at "v is_step" | wtm_at "e2" | wtm_at "e" | wtm_at "c"))
local macro_rules | `(tactic| wtm_at "gb is_step") => `(tactic| repeat (first | wtm_at "vb is_step" | wtm_at "e2" | wtm_at "e" | wtm_at "cb"))
abbrev X_is_step (P : Program) (w : World) (K : PySem.W.Frag) (mg : Str → Option Value) (base : Heap) (f : Addr) (cdv : Value) (A : Around) (outer : List Env) (s : Shared) (H : Hp) (E : XK) : Cx := (cxOf CX0 P w K mg base n_is_step "is_step" (defScope s_is_step) f cdv A outer s H E).nox
abbrev s_need_steps : Stmt := top 12
abbrev n_need_steps : List Str := ["steps", "number", "step"]
theorem sc_need_steps : FnScope n_need_steps ["steps"] (defScope s_need_steps) := ⟨rfl, rfl, rfl, by decide +kernel, rfl, by decide +kernel, by decide +kernel⟩
theorem a_need_steps_0 : atB n_need_steps (defScope s_need_steps) 0 "steps" = true := by decide +kernel
theorem a_need_steps_1 : atB n_need_steps (defScope s_need_steps) 1 "number" = true := by decide +kernel
theorem a_need_steps_2 : atB n_need_steps (defScope s_need_steps) 2 "step" = true := by decide +kernel
local macro_rules | `(tactic| wtm_at "v need_steps") => `(tactic| first
  | ((with_reducible refine' ex_var (i := 0) (x := "steps") ?h ?g ?q); (case h => exact At.of rfl rfl a_need_steps_0); (case g => rfl))
  | ((with_reducible refine' ex_var (i := 1) (x := "number") ?h ?g ?q); (case h => exact At.of rfl rfl a_need_steps_1); (case g => rfl))
  | ((with_reducible refine' ex_var (i := 2) (x := "step") ?h ?g ?q); (case h => exact At.of rfl rfl a_need_steps_2); (case g => rfl))
  | ((with_reducible refine sx_set (i := 0) (x := "steps") ?h ?s ?q); (case h => exact Lc.of sc_need_steps.nd rfl rfl (.inl rfl) a_need_steps_0); (case s => rfl))
  | ((with_reducible refine gx_name (i := 0) (x := "steps") ?h ?q); (case h => exact Lc.of sc_need_steps.nd rfl rfl (.inl rfl) a_need_steps_0))
  | ((with_reducible refine sx_set (i := 1) (x := "number") ?h ?s ?q); (case h => exact Lc.of sc_need_steps.nd rfl rfl (.inl rfl) a_need_steps_1); (case s => rfl))
  | ((with_reducible refine gx_name (i := 1) (x := "number") ?h ?q); (case h => exact Lc.of sc_need_steps.nd rfl rfl (.inl rfl) a_need_steps_1))
  | ((with_reducible refine sx_set (i := 2) (x := "step") ?h ?s ?q); (case h => exact Lc.of sc_need_steps.nd rfl rfl (.inl rfl) a_need_steps_2); (case s => rfl))
  | ((with_reducible refine gx_name (i := 2) (x := "step") ?h ?q); (case h => exact Lc.of sc_need_steps.nd rfl rfl (.inl rfl) a_need_steps_2)))
local macro_rules | `(tactic| wtm_at "vb need_steps") => `(tactic| first
  | ((with_reducible refine' ex_var (i := 0) (x := "steps") ?h ?g ?q); (case h => exact At.b rfl (by first | exact Or.inl rfl | exact Or.inr (Or.inl rfl) | exact Or.inr (Or.inr rfl))); (case g => rfl))
  | ((with_reducible refine' ex_var (i := 1) (x := "number") ?h ?g ?q); (case h => exact At.b rfl (by first | exact Or.inl rfl | exact Or.inr (Or.inl rfl) | exact Or.inr (Or.inr rfl))); (case g => rfl))
  | ((with_reducible refine' ex_var (i := 2) (x := "step") ?h ?g ?q); (case h => exact At.b rfl (by first | exact Or.inl rfl | exact Or.inr (Or.inl rfl) | exact Or.inr (Or.inr rfl))); (case g => rfl)))
local macro_rules | `(tactic| wtm_at "w need_steps") => `(tactic| repeat (first | wtm_at "v need_steps" | wtm_at "e" | wtm_at "c"))
local macro_rules | `(tactic| wtm_at "wb need_steps") => `(tactic| repeat (first | wtm_at "vb need_steps" | wtm_at "e" | wtm_at "cb"))
local macro_rules | `(tactic| wtm_at "g need_steps") => `(tactic| repeat (first | wtm_at "v need_steps" | wtm_at "e2" | wtm_at "e" | wtm_at "c"))
local macro_rules | `(tactic| wtm_at "gb need_steps") => `(tactic| repeat (first | wtm_at "vb need_steps" | wtm_at "e2" | wtm_at "e" | wtm_at "cb"))
abbrev X_need_steps (P : Program) (w : World) (K : PySem.W.Frag) (mg : Str → Option Value) (base : Heap) (f : Addr) (cdv : Value) (A : Around) (outer : List Env) (s : Shared) (H : Hp) (E : XK) : Cx := (cxOf CX0 P w K mg base n_need_steps "need_steps" (defScope s_need_steps) f cdv A outer s H E).nox
abbrev s_written : Stmt := top 13
abbrev n_written : List Str := ["steps", "word", "number"]
theorem sc_written : FnScope n_written ["steps"] (defScope s_written) := ⟨rfl, rfl, rfl, by decide +kernel, rfl, by decide +kernel, by decide +kernel⟩
theorem a_written_0 : atB n_written (defScope s_written) 0 "steps" = true := by decide +kernel
local macro_rules | `(tactic| wtm_at "v written") => `(tactic| first
  | ((with_reducible refine' ex_var (i := 0) (x := "steps") ?h ?g ?q); (case h => exact At.of rfl rfl a_written_0); (case g => rfl))
  | ((with_reducible refine sx_set (i := 0) (x := "steps") ?h ?s ?q); (case h => exact Lc.of sc_written.nd rfl rfl (.inl rfl) a_written_0); (case s => rfl))
  | ((with_reducible refine gx_name (i := 0) (x := "steps") ?h ?q); (case h => exact Lc.of sc_written.nd rfl rfl (.inl rfl) a_written_0)))
local macro_rules | `(tactic| wtm_at "vb written") => `(tactic| first
  | ((with_reducible refine' ex_var (i := 0) (x := "steps") ?h ?g ?q); (case h => exact At.b rfl (by first | exact Or.inl rfl | exact Or.inr (Or.inl rfl) | exact Or.inr (Or.inr rfl))); (case g => rfl))
  | ((with_reducible refine' ex_var (i := 1) (x := "word") ?h ?g ?q); (case h => exact At.b rfl (by first | exact Or.inl rfl | exact Or.inr (Or.inl rfl) | exact Or.inr (Or.inr rfl))); (case g => rfl))
  | ((with_reducible refine' ex_var (i := 2) (x := "number") ?h ?g ?q); (case h => exact At.b rfl (by first | exact Or.inl rfl | exact Or.inr (Or.inl rfl) | exact Or.inr (Or.inr rfl))); (case g => rfl)))
local macro_rules | `(tactic| wtm_at "w written") => `(tactic| repeat (first | wtm_at "v written" | wtm_at "e" | wtm_at "c"))
local macro_rules | `(tactic| wtm_at "wb written") => `(tactic| repeat (first | wtm_at "vb written" | wtm_at "e" | wtm_at "cb"))
local macro_rules | `(tactic| wtm_at "g written") => `(tactic| repeat (first | wtm_at "v written" | wtm_at "e2" | wtm_at "e" | wtm_at "c"))
local macro_rules | `(tactic| wtm_at "gb written") => `(tactic| repeat (first | wtm_at "vb written" | wtm_at "e2" | wtm_at "e" | wtm_at "cb"))
local macro_rules | `(tactic| wtm_at "lc written 0") => `(tactic| refine' ex_lc (own := [("word", 1), ("number", 2)]) (t := .inr [1, 2])  rfl sc_written.nd (blkOk_by (N := n_written) (sc := defScope s_written) (by decide +kernel)) (by decide) (fun _ _ _ _ _ => pg_tup rfl (pgs_cons (pg_name (i := 1) sc_written.nd rfl (Or.inl rfl)) (pgs_cons (pg_name (i := 2) sc_written.nd rfl (Or.inl rfl)) pgs_nil))) (fun _ => rfl) ?_)
local macro_rules | `(tactic| wtm_at "lcM written 0") => `(tactic| refine' ex_lcM (own := [("word", 1), ("number", 2)]) (t := .inr [1, 2])  rfl sc_written.nd (blkOk_by (N := n_written) (sc := defScope s_written) (by decide +kernel)) (by decide) (fun _ _ _ _ _ => pg_tup rfl (pgs_cons (pg_name (i := 1) sc_written.nd rfl (Or.inl rfl)) (pgs_cons (pg_name (i := 2) sc_written.nd rfl (Or.inl rfl)) pgs_nil))) (fun _ => rfl) ?_)
local macro_rules | `(tactic| wtm_at "lcp written 0") => `(tactic| refine' ex_lcp (own := [("word", 1), ("number", 2)]) (t := .inr [1, 2]) ?f rfl sc_written.nd (blkOk_by (N := n_written) (sc := defScope s_written) (by decide +kernel)) (by decide) (fun _ _ _ _ _ => pg_tup rfl (pgs_cons (pg_name (i := 1) sc_written.nd rfl (Or.inl rfl)) (pgs_cons (pg_name (i := 2) sc_written.nd rfl (Or.inl rfl)) pgs_nil))) (fun _ => rfl) ?_)
local macro_rules | `(tactic| wtm_at "lcpM written 0") => `(tactic| refine' ex_lcpM (own := [("word", 1), ("number", 2)]) (t := .inr [1, 2]) ?f rfl sc_written.nd (blkOk_by (N := n_written) (sc := defScope s_written) (by decide +kernel)) (by decide) (fun _ _ _ _ _ => pg_tup rfl (pgs_cons (pg_name (i := 1) sc_written.nd rfl (Or.inl rfl)) (pgs_cons (pg_name (i := 2) sc_written.nd rfl (Or.inl rfl)) pgs_nil))) (fun _ => rfl) ?_)
abbrev X_written (P : Program) (w : World) (K : PySem.W.Frag) (mg : Str → Option Value) (base : Heap) (f : Addr) (cdv : Value) (A : Around) (outer : List Env) (s : Shared) (H : Hp) (E : XK) : Cx := (cxOf CX0 P w K mg base n_written "written" (defScope s_written) f cdv A outer s H E).nox
abbrev s_step_of : Stmt := top 14
abbrev n_step_of : List Str := ["words", "sign"]
theorem sc_step_of : FnScope n_step_of ["words"] (defScope s_step_of) := ⟨rfl, rfl, rfl, by decide +kernel, rfl, by decide +kernel, by decide +kernel⟩
theorem a_step_of_0 : atB n_step_of (defScope s_step_of) 0 "words" = true := by decide +kernel
local macro_rules | `(tactic| wtm_at "v step_of") => `(tactic| first
  | ((with_reducible refine' ex_var (i := 0) (x := "words") ?h ?g ?q); (case h => exact At.of rfl rfl a_step_of_0); (case g => rfl))
  | ((with_reducible refine sx_set (i := 0) (x := "words") ?h ?s ?q); (case h => exact Lc.of sc_step_of.nd rfl rfl (.inl rfl) a_step_of_0); (case s => rfl))
  | ((with_reducible refine gx_name (i := 0) (x := "words") ?h ?q); (case h => exact Lc.of sc_step_of.nd rfl rfl (.inl rfl) a_step_of_0)))
local macro_rules | `(tactic| wtm_at "vb step_of") => `(tactic| first
  | ((with_reducible refine' ex_var (i := 0) (x := "words") ?h ?g ?q); (case h => exact At.b rfl (by first | exact Or.inl rfl | exact Or.inr (Or.inl rfl) | exact Or.inr (Or.inr rfl))); (case g => rfl))
  | ((with_reducible refine' ex_var (i := 1) (x := "sign") ?h ?g ?q); (case h => exact At.b rfl (by first | exact Or.inl rfl | exact Or.inr (Or.inl rfl) | exact Or.inr (Or.inr rfl))); (case g => rfl)))
local macro_rules | `(tactic| wtm_at "w step_of") => `(tactic| repeat (first | wtm_at "v step_of" | wtm_at "e" | wtm_at "c"))
local macro_rules | `(tactic| wtm_at "wb step_of") => `(tactic| repeat (first | wtm_at "vb step_of" | wtm_at "e" | wtm_at "cb"))
local macro_rules | `(tactic| wtm_at "g step_of") => `(tactic| repeat (first | wtm_at "v step_of" | wtm_at "e2" | wtm_at "e" | wtm_at "c"))
local macro_rules | `(tactic| wtm_at "gb step_of") => `(tactic| repeat (first | wtm_at "vb step_of" | wtm_at "e2" | wtm_at "e" | wtm_at "cb"))
local macro_rules | `(tactic| wtm_at "lc step_of 0") => `(tactic| refine' ex_lc (own := [("sign", 1)]) (t := .inl 1)  rfl sc_step_of.nd (blkOk_by (N := n_step_of) (sc := defScope s_step_of) (by decide +kernel)) (by decide) (fun _ _ _ _ _ => pg_name (i := 1) sc_step_of.nd rfl (Or.inl rfl)) (fun _ => rfl) ?_)
local macro_rules | `(tactic| wtm_at "lcM step_of 0") => `(tactic| refine' ex_lcM (own := [("sign", 1)]) (t := .inl 1)  rfl sc_step_of.nd (blkOk_by (N := n_step_of) (sc := defScope s_step_of) (by decide +kernel)) (by decide) (fun _ _ _ _ _ => pg_name (i := 1) sc_step_of.nd rfl (Or.inl rfl)) (fun _ => rfl) ?_)
local macro_rules | `(tactic| wtm_at "lcp step_of 0") => `(tactic| refine' ex_lcp (own := [("sign", 1)]) (t := .inl 1) ?f rfl sc_step_of.nd (blkOk_by (N := n_step_of) (sc := defScope s_step_of) (by decide +kernel)) (by decide) (fun _ _ _ _ _ => pg_name (i := 1) sc_step_of.nd rfl (Or.inl rfl)) (fun _ => rfl) ?_)
local macro_rules | `(tactic| wtm_at "lcpM step_of 0") => `(tactic| refine' ex_lcpM (own := [("sign", 1)]) (t := .inl 1) ?f rfl sc_step_of.nd (blkOk_by (N := n_step_of) (sc := defScope s_step_of) (by decide +kernel)) (by decide) (fun _ _ _ _ _ => pg_name (i := 1) sc_step_of.nd rfl (Or.inl rfl)) (fun _ => rfl) ?_)
abbrev X_step_of (P : Program) (w : World) (K : PySem.W.Frag) (mg : Str → Option Value) (base : Heap) (f : Addr) (cdv : Value) (A : Around) (outer : List Env) (s : Shared) (H : Hp) (E : XK) : Cx := (cxOf CX0 P w K mg base n_step_of "step_of" (defScope s_step_of) f cdv A outer s H E).nox
abbrev s_read : Stmt := top 15
abbrev n_read : List Str := ["text", "found", "row", "line", "step"]
theorem sc_read : FnScope n_read ["text"] (defScope s_read) := ⟨rfl, rfl, rfl, by decide +kernel, rfl, by decide +kernel, by decide +kernel⟩
theorem a_read_0 : atB n_read (defScope s_read) 0 "text" = true := by decide +kernel
theorem a_read_1 : atB n_read (defScope s_read) 1 "found" = true := by decide +kernel
theorem a_read_2 : atB n_read (defScope s_read) 2 "row" = true := by decide +kernel
theorem a_read_3 : atB n_read (defScope s_read) 3 "line" = true := by decide +kernel
theorem a_read_4 : atB n_read (defScope s_read) 4 "step" = true := by decide +kernel
local macro_rules | `(tactic| wtm_at "v read") => `(tactic| first
  | ((with_reducible refine' ex_var (i := 0) (x := "text") ?h ?g ?q); (case h => exact At.of rfl rfl a_read_0); (case g => rfl))
  | ((with_reducible refine' ex_var (i := 1) (x := "found") ?h ?g ?q); (case h => exact At.of rfl rfl a_read_1); (case g => rfl))
  | ((with_reducible refine' ex_var (i := 2) (x := "row") ?h ?g ?q); (case h => exact At.of rfl rfl a_read_2); (case g => rfl))
  | ((with_reducible refine' ex_var (i := 3) (x := "line") ?h ?g ?q); (case h => exact At.of rfl rfl a_read_3); (case g => rfl))
  | ((with_reducible refine' ex_var (i := 4) (x := "step") ?h ?g ?q); (case h => exact At.of rfl rfl a_read_4); (case g => rfl))
  | ((with_reducible refine sx_set (i := 0) (x := "text") ?h ?s ?q); (case h => exact Lc.of sc_read.nd rfl rfl (.inl rfl) a_read_0); (case s => rfl))
  | ((with_reducible refine gx_name (i := 0) (x := "text") ?h ?q); (case h => exact Lc.of sc_read.nd rfl rfl (.inl rfl) a_read_0))
  | ((with_reducible refine sx_set (i := 1) (x := "found") ?h ?s ?q); (case h => exact Lc.of sc_read.nd rfl rfl (.inl rfl) a_read_1); (case s => rfl))
  | ((with_reducible refine gx_name (i := 1) (x := "found") ?h ?q); (case h => exact Lc.of sc_read.nd rfl rfl (.inl rfl) a_read_1))
  | ((with_reducible refine sx_set (i := 2) (x := "row") ?h ?s ?q); (case h => exact Lc.of sc_read.nd rfl rfl (.inl rfl) a_read_2); (case s => rfl))
  | ((with_reducible refine gx_name (i := 2) (x := "row") ?h ?q); (case h => exact Lc.of sc_read.nd rfl rfl (.inl rfl) a_read_2))
  | ((with_reducible refine sx_set (i := 3) (x := "line") ?h ?s ?q); (case h => exact Lc.of sc_read.nd rfl rfl (.inl rfl) a_read_3); (case s => rfl))
  | ((with_reducible refine gx_name (i := 3) (x := "line") ?h ?q); (case h => exact Lc.of sc_read.nd rfl rfl (.inl rfl) a_read_3))
  | ((with_reducible refine sx_set (i := 4) (x := "step") ?h ?s ?q); (case h => exact Lc.of sc_read.nd rfl rfl (.inl rfl) a_read_4); (case s => rfl))
  | ((with_reducible refine gx_name (i := 4) (x := "step") ?h ?q); (case h => exact Lc.of sc_read.nd rfl rfl (.inl rfl) a_read_4)))
local macro_rules | `(tactic| wtm_at "vb read") => `(tactic| first
  | ((with_reducible refine' ex_var (i := 0) (x := "text") ?h ?g ?q); (case h => exact At.b rfl (by first | exact Or.inl rfl | exact Or.inr (Or.inl rfl) | exact Or.inr (Or.inr rfl))); (case g => rfl))
  | ((with_reducible refine' ex_var (i := 1) (x := "found") ?h ?g ?q); (case h => exact At.b rfl (by first | exact Or.inl rfl | exact Or.inr (Or.inl rfl) | exact Or.inr (Or.inr rfl))); (case g => rfl))
  | ((with_reducible refine' ex_var (i := 2) (x := "row") ?h ?g ?q); (case h => exact At.b rfl (by first | exact Or.inl rfl | exact Or.inr (Or.inl rfl) | exact Or.inr (Or.inr rfl))); (case g => rfl))
  | ((with_reducible refine' ex_var (i := 3) (x := "line") ?h ?g ?q); (case h => exact At.b rfl (by first | exact Or.inl rfl | exact Or.inr (Or.inl rfl) | exact Or.inr (Or.inr rfl))); (case g => rfl))
  | ((with_reducible refine' ex_var (i := 4) (x := "step") ?h ?g ?q); (case h => exact At.b rfl (by first | exact Or.inl rfl | exact Or.inr (Or.inl rfl) | exact Or.inr (Or.inr rfl))); (case g => rfl)))
local macro_rules | `(tactic| wtm_at "w read") => `(tactic| repeat (first | wtm_at "v read" | wtm_at "e" | wtm_at "c"))
local macro_rules | `(tactic| wtm_at "wb read") => `(tactic| repeat (first | wtm_at "vb read" | wtm_at "e" | wtm_at "cb"))
local macro_rules | `(tactic| wtm_at "g read") => `(tactic| repeat (first | wtm_at "v read" | wtm_at "e2" | wtm_at "e" | wtm_at "c"))
local macro_rules | `(tactic| wtm_at "gb read") => `(tactic| repeat (first | wtm_at "vb read" | wtm_at "e2" | wtm_at "e" | wtm_at "cb"))
abbrev X_read (P : Program) (w : World) (K : PySem.W.Frag) (mg : Str → Option Value) (base : Heap) (f : Addr) (cdv : Value) (A : Around) (outer : List Env) (s : Shared) (H : Hp) (E : XK) : Cx := (cxOf CX0 P w K mg base n_read "read" (defScope s_read) f cdv A outer s H E).nox
abbrev s_L_taken : Stmt := top 17
abbrev n_L_taken : List Str := ["_law_row", "_law_many", "_law_cell"]
theorem sc_L_taken : FnScope n_L_taken ["_law_row", "_law_many"] (defScope s_L_taken) := ⟨rfl, rfl, rfl, by decide +kernel, rfl, by decide +kernel, by decide +kernel⟩
theorem a_L_taken_0 : atB n_L_taken (defScope s_L_taken) 0 "_law_row" = true := by decide +kernel
theorem a_L_taken_1 : atB n_L_taken (defScope s_L_taken) 1 "_law_many" = true := by decide +kernel
theorem a_L_taken_2 : atB n_L_taken (defScope s_L_taken) 2 "_law_cell" = true := by decide +kernel
local macro_rules | `(tactic| wtm_at "v L_taken") => `(tactic| first
  | ((with_reducible refine' ex_var (i := 0) (x := "_law_row") ?h ?g ?q); (case h => exact At.of rfl rfl a_L_taken_0); (case g => rfl))
  | ((with_reducible refine' ex_var (i := 1) (x := "_law_many") ?h ?g ?q); (case h => exact At.of rfl rfl a_L_taken_1); (case g => rfl))
  | ((with_reducible refine' ex_var (i := 2) (x := "_law_cell") ?h ?g ?q); (case h => exact At.of rfl rfl a_L_taken_2); (case g => rfl))
  | ((with_reducible refine sx_set (i := 0) (x := "_law_row") ?h ?s ?q); (case h => exact Lc.of sc_L_taken.nd rfl rfl (.inl rfl) a_L_taken_0); (case s => rfl))
  | ((with_reducible refine gx_name (i := 0) (x := "_law_row") ?h ?q); (case h => exact Lc.of sc_L_taken.nd rfl rfl (.inl rfl) a_L_taken_0))
  | ((with_reducible refine sx_set (i := 1) (x := "_law_many") ?h ?s ?q); (case h => exact Lc.of sc_L_taken.nd rfl rfl (.inl rfl) a_L_taken_1); (case s => rfl))
  | ((with_reducible refine gx_name (i := 1) (x := "_law_many") ?h ?q); (case h => exact Lc.of sc_L_taken.nd rfl rfl (.inl rfl) a_L_taken_1))
  | ((with_reducible refine sx_set (i := 2) (x := "_law_cell") ?h ?s ?q); (case h => exact Lc.of sc_L_taken.nd rfl rfl (.inl rfl) a_L_taken_2); (case s => rfl))
  | ((with_reducible refine gx_name (i := 2) (x := "_law_cell") ?h ?q); (case h => exact Lc.of sc_L_taken.nd rfl rfl (.inl rfl) a_L_taken_2)))
local macro_rules | `(tactic| wtm_at "vb L_taken") => `(tactic| first
  | ((with_reducible refine' ex_var (i := 0) (x := "_law_row") ?h ?g ?q); (case h => exact At.b rfl (by first | exact Or.inl rfl | exact Or.inr (Or.inl rfl) | exact Or.inr (Or.inr rfl))); (case g => rfl))
  | ((with_reducible refine' ex_var (i := 1) (x := "_law_many") ?h ?g ?q); (case h => exact At.b rfl (by first | exact Or.inl rfl | exact Or.inr (Or.inl rfl) | exact Or.inr (Or.inr rfl))); (case g => rfl))
  | ((with_reducible refine' ex_var (i := 2) (x := "_law_cell") ?h ?g ?q); (case h => exact At.b rfl (by first | exact Or.inl rfl | exact Or.inr (Or.inl rfl) | exact Or.inr (Or.inr rfl))); (case g => rfl)))
local macro_rules | `(tactic| wtm_at "w L_taken") => `(tactic| repeat (first | wtm_at "v L_taken" | wtm_at "e" | wtm_at "c"))
local macro_rules | `(tactic| wtm_at "wb L_taken") => `(tactic| repeat (first | wtm_at "vb L_taken" | wtm_at "e" | wtm_at "cb"))
local macro_rules | `(tactic| wtm_at "g L_taken") => `(tactic| repeat (first | wtm_at "v L_taken" | wtm_at "e2" | wtm_at "e" | wtm_at "c"))
local macro_rules | `(tactic| wtm_at "gb L_taken") => `(tactic| repeat (first | wtm_at "vb L_taken" | wtm_at "e2" | wtm_at "e" | wtm_at "cb"))
abbrev X_L_taken (P : Program) (w : World) (K : PySem.W.Frag) (mg : Str → Option Value) (base : Heap) (f : Addr) (cdv : Value) (A : Around) (outer : List Env) (s : Shared) (H : Hp) (E : XK) : Cx := (cxOf CX0 P w K mg base n_L_taken "_law_taken" (defScope s_L_taken) f cdv A outer s H E).nox
abbrev s_L_alike : Stmt := top 18
abbrev n_L_alike : List Str := ["_law_found", "_law_due", "_law_k"]
theorem sc_L_alike : FnScope n_L_alike ["_law_found", "_law_due"] (defScope s_L_alike) := ⟨rfl, rfl, rfl, by decide +kernel, rfl, by decide +kernel, by decide +kernel⟩
theorem a_L_alike_0 : atB n_L_alike (defScope s_L_alike) 0 "_law_found" = true := by decide +kernel
theorem a_L_alike_1 : atB n_L_alike (defScope s_L_alike) 1 "_law_due" = true := by decide +kernel
local macro_rules | `(tactic| wtm_at "v L_alike") => `(tactic| first
  | ((with_reducible refine' ex_var (i := 0) (x := "_law_found") ?h ?g ?q); (case h => exact At.of rfl rfl a_L_alike_0); (case g => rfl))
  | ((with_reducible refine' ex_var (i := 1) (x := "_law_due") ?h ?g ?q); (case h => exact At.of rfl rfl a_L_alike_1); (case g => rfl))
  | ((with_reducible refine sx_set (i := 0) (x := "_law_found") ?h ?s ?q); (case h => exact Lc.of sc_L_alike.nd rfl rfl (.inl rfl) a_L_alike_0); (case s => rfl))
  | ((with_reducible refine gx_name (i := 0) (x := "_law_found") ?h ?q); (case h => exact Lc.of sc_L_alike.nd rfl rfl (.inl rfl) a_L_alike_0))
  | ((with_reducible refine sx_set (i := 1) (x := "_law_due") ?h ?s ?q); (case h => exact Lc.of sc_L_alike.nd rfl rfl (.inl rfl) a_L_alike_1); (case s => rfl))
  | ((with_reducible refine gx_name (i := 1) (x := "_law_due") ?h ?q); (case h => exact Lc.of sc_L_alike.nd rfl rfl (.inl rfl) a_L_alike_1)))
local macro_rules | `(tactic| wtm_at "vb L_alike") => `(tactic| first
  | ((with_reducible refine' ex_var (i := 0) (x := "_law_found") ?h ?g ?q); (case h => exact At.b rfl (by first | exact Or.inl rfl | exact Or.inr (Or.inl rfl) | exact Or.inr (Or.inr rfl))); (case g => rfl))
  | ((with_reducible refine' ex_var (i := 1) (x := "_law_due") ?h ?g ?q); (case h => exact At.b rfl (by first | exact Or.inl rfl | exact Or.inr (Or.inl rfl) | exact Or.inr (Or.inr rfl))); (case g => rfl))
  | ((with_reducible refine' ex_var (i := 2) (x := "_law_k") ?h ?g ?q); (case h => exact At.b rfl (by first | exact Or.inl rfl | exact Or.inr (Or.inl rfl) | exact Or.inr (Or.inr rfl))); (case g => rfl)))
local macro_rules | `(tactic| wtm_at "w L_alike") => `(tactic| repeat (first | wtm_at "v L_alike" | wtm_at "e" | wtm_at "c"))
local macro_rules | `(tactic| wtm_at "wb L_alike") => `(tactic| repeat (first | wtm_at "vb L_alike" | wtm_at "e" | wtm_at "cb"))
local macro_rules | `(tactic| wtm_at "g L_alike") => `(tactic| repeat (first | wtm_at "v L_alike" | wtm_at "e2" | wtm_at "e" | wtm_at "c"))
local macro_rules | `(tactic| wtm_at "gb L_alike") => `(tactic| repeat (first | wtm_at "vb L_alike" | wtm_at "e2" | wtm_at "e" | wtm_at "cb"))
local macro_rules | `(tactic| wtm_at "lc L_alike 0") => `(tactic| refine' ex_lc (own := [("_law_k", 2)]) (t := .inl 2)  rfl sc_L_alike.nd (blkOk_by (N := n_L_alike) (sc := defScope s_L_alike) (by decide +kernel)) (by decide) (fun _ _ _ _ _ => pg_name (i := 2) sc_L_alike.nd rfl (Or.inl rfl)) (fun _ => rfl) ?_)
local macro_rules | `(tactic| wtm_at "lcM L_alike 0") => `(tactic| refine' ex_lcM (own := [("_law_k", 2)]) (t := .inl 2)  rfl sc_L_alike.nd (blkOk_by (N := n_L_alike) (sc := defScope s_L_alike) (by decide +kernel)) (by decide) (fun _ _ _ _ _ => pg_name (i := 2) sc_L_alike.nd rfl (Or.inl rfl)) (fun _ => rfl) ?_)
local macro_rules | `(tactic| wtm_at "lcp L_alike 0") => `(tactic| refine' ex_lcp (own := [("_law_k", 2)]) (t := .inl 2) ?f rfl sc_L_alike.nd (blkOk_by (N := n_L_alike) (sc := defScope s_L_alike) (by decide +kernel)) (by decide) (fun _ _ _ _ _ => pg_name (i := 2) sc_L_alike.nd rfl (Or.inl rfl)) (fun _ => rfl) ?_)
local macro_rules | `(tactic| wtm_at "lcpM L_alike 0") => `(tactic| refine' ex_lcpM (own := [("_law_k", 2)]) (t := .inl 2) ?f rfl sc_L_alike.nd (blkOk_by (N := n_L_alike) (sc := defScope s_L_alike) (by decide +kernel)) (by decide) (fun _ _ _ _ _ => pg_name (i := 2) sc_L_alike.nd rfl (Or.inl rfl)) (fun _ => rfl) ?_)
abbrev X_L_alike (P : Program) (w : World) (K : PySem.W.Frag) (mg : Str → Option Value) (base : Heap) (f : Addr) (cdv : Value) (A : Around) (outer : List Env) (s : Shared) (H : Hp) (E : XK) : Cx := (cxOf CX0 P w K mg base n_L_alike "_law_alike" (defScope s_L_alike) f cdv A outer s H E).nox
abbrev s_L_any : Stmt := top 19
abbrev n_L_any : List Str := ["_law_row", "_law_most", "_law_words", "_law_many", "_law_k"]
theorem sc_L_any : FnScope n_L_any ["_law_row", "_law_most"] (defScope s_L_any) := ⟨rfl, rfl, rfl, by decide +kernel, rfl, by decide +kernel, by decide +kernel⟩
theorem a_L_any_0 : atB n_L_any (defScope s_L_any) 0 "_law_row" = true := by decide +kernel
theorem a_L_any_1 : atB n_L_any (defScope s_L_any) 1 "_law_most" = true := by decide +kernel
theorem a_L_any_2 : atB n_L_any (defScope s_L_any) 2 "_law_words" = true := by decide +kernel
theorem a_L_any_3 : atB n_L_any (defScope s_L_any) 3 "_law_many" = true := by decide +kernel
local macro_rules | `(tactic| wtm_at "v L_any") => `(tactic| first
  | ((with_reducible refine' ex_var (i := 0) (x := "_law_row") ?h ?g ?q); (case h => exact At.of rfl rfl a_L_any_0); (case g => rfl))
  | ((with_reducible refine' ex_var (i := 1) (x := "_law_most") ?h ?g ?q); (case h => exact At.of rfl rfl a_L_any_1); (case g => rfl))
  | ((with_reducible refine' ex_var (i := 2) (x := "_law_words") ?h ?g ?q); (case h => exact At.of rfl rfl a_L_any_2); (case g => rfl))
  | ((with_reducible refine' ex_var (i := 3) (x := "_law_many") ?h ?g ?q); (case h => exact At.of rfl rfl a_L_any_3); (case g => rfl))
  | ((with_reducible refine sx_set (i := 0) (x := "_law_row") ?h ?s ?q); (case h => exact Lc.of sc_L_any.nd rfl rfl (.inl rfl) a_L_any_0); (case s => rfl))
  | ((with_reducible refine gx_name (i := 0) (x := "_law_row") ?h ?q); (case h => exact Lc.of sc_L_any.nd rfl rfl (.inl rfl) a_L_any_0))
  | ((with_reducible refine sx_set (i := 1) (x := "_law_most") ?h ?s ?q); (case h => exact Lc.of sc_L_any.nd rfl rfl (.inl rfl) a_L_any_1); (case s => rfl))
  | ((with_reducible refine gx_name (i := 1) (x := "_law_most") ?h ?q); (case h => exact Lc.of sc_L_any.nd rfl rfl (.inl rfl) a_L_any_1))
  | ((with_reducible refine sx_set (i := 2) (x := "_law_words") ?h ?s ?q); (case h => exact Lc.of sc_L_any.nd rfl rfl (.inl rfl) a_L_any_2); (case s => rfl))
  | ((with_reducible refine gx_name (i := 2) (x := "_law_words") ?h ?q); (case h => exact Lc.of sc_L_any.nd rfl rfl (.inl rfl) a_L_any_2))
  | ((with_reducible refine sx_set (i := 3) (x := "_law_many") ?h ?s ?q); (case h => exact Lc.of sc_L_any.nd rfl rfl (.inl rfl) a_L_any_3); (case s => rfl))
  | ((with_reducible refine gx_name (i := 3) (x := "_law_many") ?h ?q); (case h => exact Lc.of sc_L_any.nd rfl rfl (.inl rfl) a_L_any_3)))
local macro_rules | `(tactic| wtm_at "vb L_any") => `(tactic| first
  | ((with_reducible refine' ex_var (i := 0) (x := "_law_row") ?h ?g ?q); (case h => exact At.b rfl (by first | exact Or.inl rfl | exact Or.inr (Or.inl rfl) | exact Or.inr (Or.inr rfl))); (case g => rfl))
  | ((with_reducible refine' ex_var (i := 1) (x := "_law_most") ?h ?g ?q); (case h => exact At.b rfl (by first | exact Or.inl rfl | exact Or.inr (Or.inl rfl) | exact Or.inr (Or.inr rfl))); (case g => rfl))
  | ((with_reducible refine' ex_var (i := 2) (x := "_law_words") ?h ?g ?q); (case h => exact At.b rfl (by first | exact Or.inl rfl | exact Or.inr (Or.inl rfl) | exact Or.inr (Or.inr rfl))); (case g => rfl))
  | ((with_reducible refine' ex_var (i := 3) (x := "_law_many") ?h ?g ?q); (case h => exact At.b rfl (by first | exact Or.inl rfl | exact Or.inr (Or.inl rfl) | exact Or.inr (Or.inr rfl))); (case g => rfl))
  | ((with_reducible refine' ex_var (i := 4) (x := "_law_k") ?h ?g ?q); (case h => exact At.b rfl (by first | exact Or.inl rfl | exact Or.inr (Or.inl rfl) | exact Or.inr (Or.inr rfl))); (case g => rfl)))
local macro_rules | `(tactic| wtm_at "w L_any") => `(tactic| repeat (first | wtm_at "v L_any" | wtm_at "e" | wtm_at "c"))
local macro_rules | `(tactic| wtm_at "wb L_any") => `(tactic| repeat (first | wtm_at "vb L_any" | wtm_at "e" | wtm_at "cb"))
local macro_rules | `(tactic| wtm_at "g L_any") => `(tactic| repeat (first | wtm_at "v L_any" | wtm_at "e2" | wtm_at "e" | wtm_at "c"))
local macro_rules | `(tactic| wtm_at "gb L_any") => `(tactic| repeat (first | wtm_at "vb L_any" | wtm_at "e2" | wtm_at "e" | wtm_at "cb"))
local macro_rules | `(tactic| wtm_at "lc L_any 0") => `(tactic| refine' ex_lc (own := [("_law_k", 4)]) (t := .inl 4)  rfl sc_L_any.nd (blkOk_by (N := n_L_any) (sc := defScope s_L_any) (by decide +kernel)) (by decide) (fun _ _ _ _ _ => pg_name (i := 4) sc_L_any.nd rfl (Or.inl rfl)) (fun _ => rfl) ?_)
local macro_rules | `(tactic| wtm_at "lcM L_any 0") => `(tactic| refine' ex_lcM (own := [("_law_k", 4)]) (t := .inl 4)  rfl sc_L_any.nd (blkOk_by (N := n_L_any) (sc := defScope s_L_any) (by decide +kernel)) (by decide) (fun _ _ _ _ _ => pg_name (i := 4) sc_L_any.nd rfl (Or.inl rfl)) (fun _ => rfl) ?_)
local macro_rules | `(tactic| wtm_at "lcp L_any 0") => `(tactic| refine' ex_lcp (own := [("_law_k", 4)]) (t := .inl 4) ?f rfl sc_L_any.nd (blkOk_by (N := n_L_any) (sc := defScope s_L_any) (by decide +kernel)) (by decide) (fun _ _ _ _ _ => pg_name (i := 4) sc_L_any.nd rfl (Or.inl rfl)) (fun _ => rfl) ?_)
local macro_rules | `(tactic| wtm_at "lcpM L_any 0") => `(tactic| refine' ex_lcpM (own := [("_law_k", 4)]) (t := .inl 4) ?f rfl sc_L_any.nd (blkOk_by (N := n_L_any) (sc := defScope s_L_any) (by decide +kernel)) (by decide) (fun _ _ _ _ _ => pg_name (i := 4) sc_L_any.nd rfl (Or.inl rfl)) (fun _ => rfl) ?_)
abbrev X_L_any (P : Program) (w : World) (K : PySem.W.Frag) (mg : Str → Option Value) (base : Heap) (f : Addr) (cdv : Value) (A : Around) (outer : List Env) (s : Shared) (H : Hp) (E : XK) : Cx := (cxOf CX0 P w K mg base n_L_any "_law_any" (defScope s_L_any) f cdv A outer s H E).nox
abbrev s_law : Stmt := top 20
abbrev n_law : List Str := ["_law_script", "_law_row", "_law_turn", "_law_steps", "_law_text", "_law_handed", "_law_again", "_law_found", "_law_word", "_law_number"]
theorem sc_law : FnScope n_law ["_law_script"] (defScope s_law) := ⟨rfl, rfl, rfl, by decide +kernel, rfl, by decide +kernel, by decide +kernel⟩
theorem a_law_0 : atB n_law (defScope s_law) 0 "_law_script" = true := by decide +kernel
theorem a_law_1 : atB n_law (defScope s_law) 1 "_law_row" = true := by decide +kernel
theorem a_law_2 : atB n_law (defScope s_law) 2 "_law_turn" = true := by decide +kernel
theorem a_law_3 : atB n_law (defScope s_law) 3 "_law_steps" = true := by decide +kernel
theorem a_law_4 : atB n_law (defScope s_law) 4 "_law_text" = true := by decide +kernel
theorem a_law_5 : atB n_law (defScope s_law) 5 "_law_handed" = true := by decide +kernel
theorem a_law_6 : atB n_law (defScope s_law) 6 "_law_again" = true := by decide +kernel
theorem a_law_7 : atB n_law (defScope s_law) 7 "_law_found" = true := by decide +kernel
local macro_rules | `(tactic| wtm_at "v law") => `(tactic| first
  | ((with_reducible refine' ex_var (i := 0) (x := "_law_script") ?h ?g ?q); (case h => exact At.of rfl rfl a_law_0); (case g => rfl))
  | ((with_reducible refine' ex_var (i := 1) (x := "_law_row") ?h ?g ?q); (case h => exact At.of rfl rfl a_law_1); (case g => rfl))
  | ((with_reducible refine' ex_var (i := 2) (x := "_law_turn") ?h ?g ?q); (case h => exact At.of rfl rfl a_law_2); (case g => rfl))
  | ((with_reducible refine' ex_var (i := 3) (x := "_law_steps") ?h ?g ?q); (case h => exact At.of rfl rfl a_law_3); (case g => rfl))
  | ((with_reducible refine' ex_var (i := 4) (x := "_law_text") ?h ?g ?q); (case h => exact At.of rfl rfl a_law_4); (case g => rfl))
  | ((with_reducible refine' ex_var (i := 5) (x := "_law_handed") ?h ?g ?q); (case h => exact At.of rfl rfl a_law_5); (case g => rfl))
  | ((with_reducible refine' ex_var (i := 6) (x := "_law_again") ?h ?g ?q); (case h => exact At.of rfl rfl a_law_6); (case g => rfl))
  | ((with_reducible refine' ex_var (i := 7) (x := "_law_found") ?h ?g ?q); (case h => exact At.of rfl rfl a_law_7); (case g => rfl))
  | ((with_reducible refine sx_set (i := 0) (x := "_law_script") ?h ?s ?q); (case h => exact Lc.of sc_law.nd rfl rfl (.inl rfl) a_law_0); (case s => rfl))
  | ((with_reducible refine gx_name (i := 0) (x := "_law_script") ?h ?q); (case h => exact Lc.of sc_law.nd rfl rfl (.inl rfl) a_law_0))
  | ((with_reducible refine sx_set (i := 1) (x := "_law_row") ?h ?s ?q); (case h => exact Lc.of sc_law.nd rfl rfl (.inl rfl) a_law_1); (case s => rfl))
  | ((with_reducible refine gx_name (i := 1) (x := "_law_row") ?h ?q); (case h => exact Lc.of sc_law.nd rfl rfl (.inl rfl) a_law_1))
  | ((with_reducible refine sx_set (i := 2) (x := "_law_turn") ?h ?s ?q); (case h => exact Lc.of sc_law.nd rfl rfl (.inl rfl) a_law_2); (case s => rfl))
  | ((with_reducible refine gx_name (i := 2) (x := "_law_turn") ?h ?q); (case h => exact Lc.of sc_law.nd rfl rfl (.inl rfl) a_law_2))
  | ((with_reducible refine sx_set (i := 3) (x := "_law_steps") ?h ?s ?q); (case h => exact Lc.of sc_law.nd rfl rfl (.inl rfl) a_law_3); (case s => rfl))
  | ((with_reducible refine gx_name (i := 3) (x := "_law_steps") ?h ?q); (case h => exact Lc.of sc_law.nd rfl rfl (.inl rfl) a_law_3))
  | ((with_reducible refine sx_set (i := 4) (x := "_law_text") ?h ?s ?q); (case h => exact Lc.of sc_law.nd rfl rfl (.inl rfl) a_law_4); (case s => rfl))
  | ((with_reducible refine gx_name (i := 4) (x := "_law_text") ?h ?q); (case h => exact Lc.of sc_law.nd rfl rfl (.inl rfl) a_law_4))
  | ((with_reducible refine sx_set (i := 5) (x := "_law_handed") ?h ?s ?q); (case h => exact Lc.of sc_law.nd rfl rfl (.inl rfl) a_law_5); (case s => rfl))
  | ((with_reducible refine gx_name (i := 5) (x := "_law_handed") ?h ?q); (case h => exact Lc.of sc_law.nd rfl rfl (.inl rfl) a_law_5))
  | ((with_reducible refine sx_set (i := 6) (x := "_law_again") ?h ?s ?q); (case h => exact Lc.of sc_law.nd rfl rfl (.inl rfl) a_law_6); (case s => rfl))
  | ((with_reducible refine gx_name (i := 6) (x := "_law_again") ?h ?q); (case h => exact Lc.of sc_law.nd rfl rfl (.inl rfl) a_law_6))
  | ((with_reducible refine sx_set (i := 7) (x := "_law_found") ?h ?s ?q); (case h => exact Lc.of sc_law.nd rfl rfl (.inl rfl) a_law_7); (case s => rfl))
  | ((with_reducible refine gx_name (i := 7) (x := "_law_found") ?h ?q); (case h => exact Lc.of sc_law.nd rfl rfl (.inl rfl) a_law_7)))
local macro_rules | `(tactic| wtm_at "vb law") => `(tactic| first
  | ((with_reducible refine' ex_var (i := 0) (x := "_law_script") ?h ?g ?q); (case h => exact At.b rfl (by first | exact Or.inl rfl | exact Or.inr (Or.inl rfl) | exact Or.inr (Or.inr rfl))); (case g => rfl))
  | ((with_reducible refine' ex_var (i := 1) (x := "_law_row") ?h ?g ?q); (case h => exact At.b rfl (by first | exact Or.inl rfl | exact Or.inr (Or.inl rfl) | exact Or.inr (Or.inr rfl))); (case g => rfl))
  | ((with_reducible refine' ex_var (i := 2) (x := "_law_turn") ?h ?g ?q); (case h => exact At.b rfl (by first | exact Or.inl rfl | exact Or.inr (Or.inl rfl) | exact Or.inr (Or.inr rfl))); (case g => rfl))
  | ((with_reducible refine' ex_var (i := 3) (x := "_law_steps") ?h ?g ?q); (case h => exact At.b rfl (by first | exact Or.inl rfl | exact Or.inr (Or.inl rfl) | exact Or.inr (Or.inr rfl))); (case g => rfl))
  | ((with_reducible refine' ex_var (i := 4) (x := "_law_text") ?h ?g ?q); (case h => exact At.b rfl (by first | exact Or.inl rfl | exact Or.inr (Or.inl rfl) | exact Or.inr (Or.inr rfl))); (case g => rfl))
  | ((with_reducible refine' ex_var (i := 5) (x := "_law_handed") ?h ?g ?q); (case h => exact At.b rfl (by first | exact Or.inl rfl | exact Or.inr (Or.inl rfl) | exact Or.inr (Or.inr rfl))); (case g => rfl))
  | ((with_reducible refine' ex_var (i := 6) (x := "_law_again") ?h ?g ?q); (case h => exact At.b rfl (by first | exact Or.inl rfl | exact Or.inr (Or.inl rfl) | exact Or.inr (Or.inr rfl))); (case g => rfl))
  | ((with_reducible refine' ex_var (i := 7) (x := "_law_found") ?h ?g ?q); (case h => exact At.b rfl (by first | exact Or.inl rfl | exact Or.inr (Or.inl rfl) | exact Or.inr (Or.inr rfl))); (case g => rfl))
  | ((with_reducible refine' ex_var (i := 8) (x := "_law_word") ?h ?g ?q); (case h => exact At.b rfl (by first | exact Or.inl rfl | exact Or.inr (Or.inl rfl) | exact Or.inr (Or.inr rfl))); (case g => rfl))
  | ((with_reducible refine' ex_var (i := 9) (x := "_law_number") ?h ?g ?q); (case h => exact At.b rfl (by first | exact Or.inl rfl | exact Or.inr (Or.inl rfl) | exact Or.inr (Or.inr rfl))); (case g => rfl)))
local macro_rules | `(tactic| wtm_at "w law") => `(tactic| repeat (first | wtm_at "v law" | wtm_at "e" | wtm_at "c"))
local macro_rules | `(tactic| wtm_at "wb law") => `(tactic| repeat (first | wtm_at "vb law" | wtm_at "e" | wtm_at "cb"))
local macro_rules | `(tactic| wtm_at "g law") => `(tactic| repeat (first | wtm_at "v law" | wtm_at "e2" | wtm_at "e" | wtm_at "c"))
local macro_rules | `(tactic| wtm_at "gb law") => `(tactic| repeat (first | wtm_at "vb law" | wtm_at "e2" | wtm_at "e" | wtm_at "cb"))
local macro_rules | `(tactic| wtm_at "lc law 0") => `(tactic| refine' ex_lc (own := [("_law_word", 8), ("_law_number", 9)]) (t := .inr [8, 9])  rfl sc_law.nd (blkOk_by (N := n_law) (sc := defScope s_law) (by decide +kernel)) (by decide) (fun _ _ _ _ _ => pg_tup rfl (pgs_cons (pg_name (i := 8) sc_law.nd rfl (Or.inl rfl)) (pgs_cons (pg_name (i := 9) sc_law.nd rfl (Or.inl rfl)) pgs_nil))) (fun _ => rfl) ?_)
local macro_rules | `(tactic| wtm_at "lcM law 0") => `(tactic| refine' ex_lcM (own := [("_law_word", 8), ("_law_number", 9)]) (t := .inr [8, 9])  rfl sc_law.nd (blkOk_by (N := n_law) (sc := defScope s_law) (by decide +kernel)) (by decide) (fun _ _ _ _ _ => pg_tup rfl (pgs_cons (pg_name (i := 8) sc_law.nd rfl (Or.inl rfl)) (pgs_cons (pg_name (i := 9) sc_law.nd rfl (Or.inl rfl)) pgs_nil))) (fun _ => rfl) ?_)
local macro_rules | `(tactic| wtm_at "lcp law 0") => `(tactic| refine' ex_lcp (own := [("_law_word", 8), ("_law_number", 9)]) (t := .inr [8, 9]) ?f rfl sc_law.nd (blkOk_by (N := n_law) (sc := defScope s_law) (by decide +kernel)) (by decide) (fun _ _ _ _ _ => pg_tup rfl (pgs_cons (pg_name (i := 8) sc_law.nd rfl (Or.inl rfl)) (pgs_cons (pg_name (i := 9) sc_law.nd rfl (Or.inl rfl)) pgs_nil))) (fun _ => rfl) ?_)
local macro_rules | `(tactic| wtm_at "lcpM law 0") => `(tactic| refine' ex_lcpM (own := [("_law_word", 8), ("_law_number", 9)]) (t := .inr [8, 9]) ?f rfl sc_law.nd (blkOk_by (N := n_law) (sc := defScope s_law) (by decide +kernel)) (by decide) (fun _ _ _ _ _ => pg_tup rfl (pgs_cons (pg_name (i := 8) sc_law.nd rfl (Or.inl rfl)) (pgs_cons (pg_name (i := 9) sc_law.nd rfl (Or.inl rfl)) pgs_nil))) (fun _ => rfl) ?_)
abbrev X_law (P : Program) (w : World) (K : PySem.W.Frag) (mg : Str → Option Value) (base : Heap) (f : Addr) (cdv : Value) (A : Around) (outer : List Env) (s : Shared) (H : Hp) (E : XK) : Cx := (cxOf CX0 P w K mg base n_law "law" (defScope s_law) f cdv A outer s H E).nox

/-! ### numbers -/
def isNum : D → Int → Int → Bool
  | .int i, lo, hi => decide (lo ≤ i) && decide (i ≤ hi)
  | _, _, _ => false
def spIsNumber : DSp := fun ds M Q => ∃ d lo hi, ds = [d, .int lo, .int hi] ∧ d.tyd = true ∧ Q (.bl (isNum d lo hi)) M
section
variable {P : Program} {w : World} {K : PySem.W.Frag} {mg : Str → Option Value} {base : Heap}
theorem ok_is_number {f : Addr} {fd : FuncData} (Fn : Fun K "is_number" "is_number" s_is_number f fd) (zi : mg "isinstance" = none) (zn : mg "int" = none) (zb : mg "bool" = none) : FnOk P w K mg base CX0 1 f fd ["part", "low", "high"] (lift K spIsNumber) := by
  refine fun_ok Fn sc_is_number (fun ds M Q ⟨_, _, _, e, _⟩ => by rw [e]; rfl) fun cdv A outer s H E hr ds M Q h B => ?_
  obtain ⟨d, lo, hi, rfl, hd, k⟩ := h
  have b1 : Blt (X_is_number P w K mg base f cdv A outer s H E) "isinstance" (.builtin "isinstance") := ⟨rfl, zi, bb_isinstance, by decide, by decide⟩
  have b2 : Blt (X_is_number P w K mg base f cdv A outer s H E) "int" (.type "int") := ⟨rfl, zn, bb_int, by decide, by decide⟩
  have b3 : Blt (X_is_number P w K mg base f cdv A outer s H E) "bool" (.type "bool") := ⟨rfl, zb, bb_bool, by decide, by decide⟩
  wtm_at "b"
  cases d with
  | int i =>
    wtm_at "w is_number"
    refine ite_dec (fun h1 => ?_) (fun h1 => ?_)
    · wtm_at "w is_number"
      simpa [isNum, h1] using k
    · simpa [isNum, h1] using k
  | ref a => cases hd
  | ty n => cases hd
  | _ =>
    wtm_at "w is_number"
    exact k
end

/-! ### steps -/
def stepWords : List Str := ["send", "call", "lose", "beat"]
def isStep : D → Bool
  | .tup [.str x, n] => decide (x ∈ stepWords) && isNum n 0 99
  | _ => false
/-- data of which kinds may be asked -/
def kindOk : D → Prop
  | .tup ds => ∀ d ∈ ds, d.tyd = true
  | d => d.tyd = true
def spIsStep : DSp := fun ds M Q => ∃ d, ds = [d] ∧ kindOk d ∧ Q (.bl (isStep d)) M
section
variable {P : Program} {w : World} {K : PySem.W.Frag} {mg : Str → Option Value} {base : Heap}
theorem ok_is_step {f : Addr} {fd : FuncData} (Fn : Fun K "is_step" "is_step" s_is_step f fd) (zi : mg "isinstance" = none) (zt : mg "tuple" = none) (zl : mg "len" = none) (zs : mg "str" = none)
    (gS : Cst K mg "STEPS" (.tup (stepWords.map D.str))) (gN : Cst K mg "MOST_NUMBER" (.int 99)) (dN : Dfn P w K mg base 1 "is_number" spIsNumber) : FnOk P w K mg base CX0 2 f fd ["step"] (lift K spIsStep) := by
  refine fun_ok Fn sc_is_step (fun ds M Q ⟨_, e, _⟩ => by rw [e]; rfl) fun cdv A outer s H E hr ds M Q h B => ?_
  obtain ⟨d, rfl, hd, k⟩ := h
  have b1 : Blt (X_is_step P w K mg base f cdv A outer s H E) "isinstance" (.builtin "isinstance") := ⟨rfl, zi, bb_isinstance, by decide, by decide⟩
  have b2 : Blt (X_is_step P w K mg base f cdv A outer s H E) "tuple" (.type "tuple") := ⟨rfl, zt, bb_tuple, by decide, by decide⟩
  have b3 : Blt (X_is_step P w K mg base f cdv A outer s H E) "len" (.builtin "len") := ⟨rfl, zl, bb_len, by decide, by decide⟩
  have b4 : Blt (X_is_step P w K mg base f cdv A outer s H E) "str" (.type "str") := ⟨rfl, zs, bb_str, by decide, by decide⟩
  have g1 : Gb (X_is_step P w K mg base f cdv A outer s H E) "STEPS" (.tup (stepWords.map D.str)) := ⟨rfl, gS, by decide⟩
  have g2 : Gb (X_is_step P w K mg base f cdv A outer s H E) "MOST_NUMBER" (.int 99) := ⟨rfl, gN, by decide⟩
  have c1 : Dfn (X_is_step P w K mg base f cdv A outer s H E).prog (X_is_step P w K mg base f cdv A outer s H E).w (X_is_step P w K mg base f cdv A outer s H E).K (X_is_step P w K mg base f cdv A outer s H E).mg (X_is_step P w K mg base f cdv A outer s H E).base 1 "is_number" spIsNumber := dN
  wtm_at "b"
  cases d with
  | tup ds =>
    have ht : (D.tup ds).tyd = true := rfl
    wtm_at "w is_step"
    match ds, hd with
    | [], _ =>
      wtm_at "w is_step"
      exact k
    | [a], _ =>
      wtm_at "w is_step"
      have e : isStep (.tup [a]) = false := by cases a <;> rfl
      rw [e] at k
      exact k
    | a :: b :: c :: r, _ =>
      refine ite_ndec (fun _ => ?_) (fun e => ?_)
      · wtm_at "w is_step"
        have e : isStep (.tup (a :: b :: c :: r)) = false := by cases a <;> rfl
        rw [e] at k
        exact k
      · simp only [List.length_cons] at e
        omega
    | [a, b], hd =>
      have ha : a.tyd = true := hd a (by simp)
      have hb : b.tyd = true := hd b (by simp)
      wtm_at "w is_step"
      refine ix_t (d := a) rfl ?_
      cases a with
      | str x =>
        wtm_at "w is_step"
        refine ix_t (d := .str x) rfl ?_
        wtm_at "w is_step"
        refine ox_inT rfl flat_strs ?_
        rw [inD_str]
        refine asB_bl ?_
        refine ite_dec (fun h1 => ?_) (fun h1 => ?_)
        · wtm_at "w is_step"
          refine ix_t (d := b) rfl ?_
          wtm_at "w is_step"
          refine ⟨_, _, _, rfl, hb, ?_⟩
          simpa [isStep, h1] using k
        · simpa [isStep, h1] using k
      | ref _ => cases ha
      | ty _ => cases ha
      | _ =>
        wtm_at "w is_step"
        exact k
  | ref _ => cases hd
  | ty _ => cases hd
  | _ =>
    have ht := hd
    unfold kindOk at ht
    wtm_at "w is_step"
    exact k
end

abbrev DfX (X : Cx) (k : Nat) (x : Str) (sp : DSp) : Prop := Dfn X.prog X.w X.K X.mg X.base k x sp
def encS (s : Str × Int) : D := .tup [.str s.1, .int s.2]
def goodS (s : Str × Int) : Prop := s.1 ∈ stepWords ∧ 0 ≤ s.2 ∧ s.2 ≤ 99
theorem isStep_enc {s : Str × Int} (h : goodS s) : isStep (encS s) = true := by
  obtain ⟨h1, h2, h3⟩ := h
  simp [encS, isStep, isNum, h1, h2, h3]
def spNeedSteps : DSp := fun ds M Q => ∃ ss : List (Str × Int), ds = [.lst (ss.map encS)] ∧ (∀ s ∈ ss, goodS s) ∧ ss.length ≤ 400 ∧ Q .non M
section
variable {P : Program} {w : World} {K : PySem.W.Frag} {mg : Str → Option Value} {base : Heap}
theorem ok_need_steps {f : Addr} {fd : FuncData} (Fn : Fun K "need_steps" "need_steps" s_need_steps f fd) (ze : mg "enumerate" = none) (gM : Cst K mg "MOST_STEPS" (.int 400)) (dN : Dfn P w K mg base 2 "is_step" spIsStep) : FnOk P w K mg base CX0 3 f fd ["steps"] (lift K spNeedSteps) := by
  refine fun_ok Fn sc_need_steps (fun ds M Q ⟨_, e, _⟩ => by rw [e]; rfl) fun cdv A outer s H E hr ds M Q h B => ?_
  obtain ⟨ss, rfl, hg, hl, k⟩ := h
  have g1 : Gb (X_need_steps P w K mg base f cdv A outer s H E) "MOST_STEPS" (.int 400) := ⟨rfl, gM, by decide⟩
  have c1 : DfX (X_need_steps P w K mg base f cdv A outer s H E) 2 "is_step" spIsStep := dN
  wtm_at "b"
  refine sx_for PassesOwn.never rfl (fun _ => rfl) ?_
  refine lx_enum rfl ze rfl ⟨_, _, _, rfl⟩ ?_
  wtm_at "w need_steps"
  refine ⟨_, rfl, fun i G' M' => ∃ a b, G' = [some (.lst (ss.map encS)), a, b] ∧ M' = M, ⟨_, _, rfl, rfl⟩, ?_, ?_⟩
  · rintro i d G' M' hd ⟨a, b, rfl, rfl⟩
    obtain ⟨x, hx, rfl⟩ := enumD_at hd
    rw [List.getElem?_map] at hx
    obtain ⟨st, hst, rfl⟩ := Option.map_eq_some_iff.mp hx
    have hi : i < ss.length := (List.getElem?_eq_some_iff.mp hst).1
    have gs := hg st (List.mem_of_getElem? hst)
    wtm_at "w need_steps"
    refine ite_dec (fun h1 => by omega) (fun _ => ?_)
    wtm_at "w need_steps"
    refine ⟨_, rfl, (by intro d hd; rcases List.mem_cons.mp hd with rfl | hd; rfl; rcases List.mem_cons.mp hd with rfl | hd; rfl; cases hd), ?_⟩
    rw [isStep_enc gs]
    wtm_at "w need_steps"
    exact ⟨_, _, rfl, rfl⟩
  · rintro G' M' ⟨a, b, rfl, rfl⟩
    exact k
end
/-! ### rows of steps -/
def rowS (s : Str × Int) : Str := s.1 ++ " " ++ toString s.2
def textS (ss : List (Str × Int)) : Str := Txt.join "\n" (ss.map rowS)
theorem len_app (x y : Str) : (x ++ y).length = x.length + y.length := by
  show (x.cps ++ y.cps).size = x.cps.size + y.cps.size
  exact Array.size_append
theorem num_len {n : Int} (h0 : 0 ≤ n) (h1 : n ≤ 99) : (toString n : Str).length ≤ 2 ∧ n.natAbs.log2 < 1920 ∧ 1 ≤ (toString n : Str).length := by
  have hn : ∀ k : Nat, k ≤ 99 → ((toString (k : Int) : Str).length ≤ 2 ∧ ((k : Int).natAbs).log2 < 1920 ∧ 1 ≤ (toString (k : Int) : Str).length) := by decide +kernel
  obtain ⟨k, rfl⟩ : ∃ k : Nat, n = (k : Int) := ⟨n.toNat, by omega⟩
  exact hn k (by omega)
theorem word_len {x : Str} (h : x ∈ stepWords) : x.length = 4 := by
  have hw : ∀ x ∈ stepWords, x.length = 4 := by decide +kernel
  exact hw x h
theorem rowS_len {s : Str × Int} (h : goodS s) : (rowS s).length ≤ 7 := by
  obtain ⟨h1, h2, h3⟩ := h
  have a := word_len h1
  have b := (num_len h2 h3).1
  have c : (" " : Str).length = 1 := by decide +kernel
  unfold rowS
  rw [len_app, len_app]
  omega
theorem rows_sum : ∀ {ss : List (Str × Int)}, (∀ s ∈ ss, goodS s) → ((ss.map rowS).map (·.length)).sum ≤ 7 * ss.length
  | [], _ => Nat.le_refl _
  | s :: ss, h => by
    have h1 := rowS_len (h s (by simp))
    have h2 := rows_sum fun y hy => h y (List.mem_cons_of_mem _ hy)
    simp only [List.map_cons, List.sum_cons, List.length_cons]
    omega
def spWritten : DSp := fun ds M Q => ∃ ss : List (Str × Int), ds = [.lst (ss.map encS)] ∧ (∀ s ∈ ss, goodS s) ∧ ss.length ≤ 400 ∧ Q (.str (textS ss)) M
section
variable {P : Program} {w : World} {K : PySem.W.Frag} {mg : Str → Option Value} {base : Heap}
def fRow : D → Option D
  | .tup [.str x, .int n] => some (.str (rowS (x, n)))
  | _ => none
theorem ok_written {f : Addr} {fd : FuncData} (Fn : Fun K "written" "written" s_written f fd) (dN : Dfn P w K mg base 3 "need_steps" spNeedSteps) : FnOk P w K mg base CX0 4 f fd ["steps"] (lift K spWritten) := by
  refine fun_ok Fn sc_written (fun ds M Q ⟨_, e, _⟩ => by rw [e]; rfl) fun cdv A outer s H E hr ds M Q h B => ?_
  obtain ⟨ss, rfl, hg, hl, k⟩ := h
  have c1 : DfX (X_written P w K mg base f cdv A outer s H E) 3 "need_steps" spNeedSteps := dN
  wtm_at "b"
  wtm_at "w written"
  refine ⟨ss, rfl, hg, hl, ?_⟩
  wtm_at "w written"
  refine ex_m1 PySem.F.slot_str_join PySem.F.type_str_join rfl rfl rfl ?_
  wtm_at "w written"
  refine ⟨_, rfl, ?_⟩
  wtm_at "lcp written 0"
  case f => exact fRow
  refine lx_list ?_
  wtm_at "w written"
  refine ⟨_, rfl, ⟨Nat.lt_of_le_of_lt (by rw [List.length_map]; exact hl) (by decide), fun d M' hd hm => ?_⟩, ?_⟩
  · obtain ⟨st, hst, rfl⟩ := List.mem_map.mp hd
    have gs := hg st hst
    refine ⟨_, rfl, rfl, fun s1 H1 C1 cl1 fp1 => ?_⟩
    refine txs_nil (iteT fun s2 H2 C2 cl2 fp2 => ?_)
    refine ex_joined ?_
    refine ex_fmtS ?_
    wtm_at "wb written"
    have l1 := word_len gs.1
    have l2 := (num_len gs.2.1 gs.2.2).1
    have l3 : (" " : Str).length = 1 := by decide +kernel
    refine ⟨_, rfl, by rw [l1]; decide, _, rfl, by rw [str_empty_app, l1]; decide, ?_⟩
    refine ex_str ?_
    refine ⟨_, rfl, by rw [str_empty_app, len_app, l1, l3]; decide, ?_⟩
    refine ex_fmtI ?_
    wtm_at "wb written"
    refine ⟨_, rfl, (num_len gs.2.1 gs.2.2).2.1, _, rfl, ?_, rfl, ?_⟩
    · rw [str_empty_app, len_app, len_app, l1, l3]
      exact Nat.le_trans (Nat.add_le_add_left l2 _) (by decide)
    · rw [str_empty_app]
      rfl
  · have e : (ss.map encS).filterMap fRow = (ss.map rowS).map D.str := by
      rw [filterMap_enc (enc := encS) (f := fRow) (g := fun s => D.str (rowS s)) (fun _ _ => rfl), List.map_map]
      rfl
    rw [e]
    refine mx_join ?_ k
    have h2 := rows_sum hg
    have h3 : ("\n" : Str).length = 1 := by decide +kernel
    rw [List.length_map, h3]
    omega
end

/-! ### a step of words -/
def figs : List Nat := [48, 49, 50, 51, 52, 53, 54, 55, 56, 57]
/-- one or two figures, none needless -/
def isFig (x : Str) : Bool := match x.cps.toList with
  | [c] => decide (c ∈ figs)
  | [c, d] => decide (c ∈ figs) && decide (d ∈ figs) && !decide (c = 48)
  | _ => false
def figVal (x : Str) : Int := match x.cps.toList with
  | [c] => (c : Int) - 48
  | [c, d] => ((c : Int) - 48) * 10 + ((d : Int) - 48)
  | _ => 0
def stepOf (ws : List Str) : Option (Str × Int) := match ws with
  | [a, b] => if a ∈ stepWords ∧ isFig b = true then some (a, figVal b) else none
  | _ => none
def encO : Option (Str × Int) → D
  | none => .non
  | some s => encS s
theorem fig_int {x : Str} (h : isFig x = true) : PySem.intText? x = some (figVal x) := by
  obtain ⟨⟨l⟩⟩ := x
  have h1 : ∀ c ∈ figs, PySem.intText? ⟨⟨[c]⟩⟩ = some ((c : Int) - 48) := by decide +kernel
  have h2 : ∀ c ∈ figs, ∀ d ∈ figs, PySem.intText? ⟨⟨[c, d]⟩⟩ = some (((c : Int) - 48) * 10 + ((d : Int) - 48)) := by decide +kernel
  match l, h with
  | [c], h =>
    have hc : c ∈ figs := of_decide_eq_true h
    exact h1 c hc
  | [c, d], h =>
    obtain ⟨hh, _⟩ := Bool.and_eq_true_iff.mp (show (decide (c ∈ figs) && decide (d ∈ figs) && !decide (c = 48)) = true from h)
    obtain ⟨hc, hd⟩ := Bool.and_eq_true_iff.mp hh
    exact h2 c (of_decide_eq_true hc) d (of_decide_eq_true hd)
def spStepOf : DSp := fun ds M Q => ∃ ws : List Str, ds = [.lst (ws.map D.str)] ∧ (∀ x ∈ ws, x.length ≤ sizeLine ∧ PyData.strOk x = true) ∧ Q (encO (stepOf ws)) M
/-- what is no figure -/
def fSign : D → Option D
  | .str x => match x.cps.toList with
    | [c] => if c ∈ figs then none else some (.str x)
    | _ => none
  | _ => none
theorem signs_none (l : List Nat) : (l.map fun c => D.str ⟨#[c]⟩).filterMap fSign = (l.filter fun c => !decide (c ∈ figs)).map fun c => D.str ⟨#[c]⟩ := by
  induction l with
  | nil => rfl
  | cons c l ih =>
    rw [List.map_cons, List.filterMap_cons, List.filter_cons]
    by_cases h : c ∈ figs
    · have e : fSign (.str ⟨#[c]⟩) = none := by simp [fSign, h]
      rw [e]; simp [h, ih]
    · have e : fSign (.str ⟨#[c]⟩) = some (.str ⟨#[c]⟩) := by simp [fSign, h]
      rw [e]; simp [h, ih]
section
variable {P : Program} {w : World} {K : PySem.W.Frag} {mg : Str → Option Value} {base : Heap}
theorem ok_step_of {f : Addr} {fd : FuncData} (Fn : Fun K "step_of" "step_of" s_step_of f fd) (zl : mg "len" = none) (zi : mg "int" = none) (gS : Cst K mg "STEPS" (.tup (stepWords.map D.str))) (gF : Cst K mg "FIGURES" (.str "0123456789")) : FnOk P w K mg base CX0 1 f fd ["words"] (lift K spStepOf) := by
  refine fun_ok Fn sc_step_of (fun ds M Q ⟨_, e, _⟩ => by rw [e]; rfl) fun cdv A outer s H E hr ds M Q h B => ?_
  obtain ⟨ws, rfl, hz, k⟩ := h
  have b1 : Blt (X_step_of P w K mg base f cdv A outer s H E) "len" (.builtin "len") := ⟨rfl, zl, bb_len, by decide, by decide⟩
  have b2 : Blt (X_step_of P w K mg base f cdv A outer s H E) "int" (.type "int") := ⟨rfl, zi, bb_int, by decide, by decide⟩
  have g1 : Gb (X_step_of P w K mg base f cdv A outer s H E) "STEPS" (.tup (stepWords.map D.str)) := ⟨rfl, gS, by decide⟩
  have eF : ("0123456789" : Str).cps.toList = figs := by decide +kernel
  wtm_at "b"
  wtm_at "w step_of"
  match ws, hz with
  | [], _ =>
    wtm_at "w step_of"
    exact k
  | [a], _ =>
    wtm_at "w step_of"
    exact k
  | a :: b :: c :: r, _ =>
    refine ite_ndec (fun _ => ?_) (fun e => ?_)
    · wtm_at "w step_of"
      exact k
    · simp only [List.length_cons, List.length_map] at e
      omega
  | [a, b], hz =>
    have hb := (hz b (by simp)).1
    have hk := (hz b (by simp)).2
    wtm_at "w step_of"
    refine ix_l (d := .str a) rfl ?_
    wtm_at "w step_of"
    refine ox_notInT rfl flat_strs ?_
    rw [inD_str]
    refine asB_bl ?_
    refine ite_ndec (fun h1 => ?_) (fun h1 => ?_)
    · wtm_at "w step_of"
      have e : stepOf [a, b] = none := by simp [stepOf, h1]
      rw [e] at k
      exact k
    wtm_at "w step_of"
    refine ix_l (d := .str b) rfl ?_
    wtm_at "w step_of"
    refine bx_lenS hb ?_
    have bad : isFig b = false → Q .non M := fun z => by
      have e : stepOf [a, b] = none := by simp [stepOf, z]
      rw [e] at k
      exact k
    have bl : b.length = b.cps.toList.length := by simp [Str.length]
    wtm_at "w step_of"
    refine ite_dec (fun h2 => ?_) (fun h2 => ?_)
    · wtm_at "w step_of"
      refine ite_ndec (fun h3 => ?_) (fun h3 => ?_)
      · wtm_at "w step_of"
        refine bad ?_
        unfold isFig
        split
        · rename_i e; rw [bl, e] at h3; simp at h3
        · rename_i e; rw [bl, e] at h3; simp at h3
        · rfl
      · wtm_at "w step_of"
        wtm_at "lcp step_of 0"
        case f => exact fSign
        refine lx_str ?_
        wtm_at "w step_of"
        refine ix_l (d := .str b) rfl ?_
        refine ⟨_, rfl, ⟨?_, fun d M' hd hm => ?_⟩, ?_⟩
        · unfold signsD
          rw [List.length_map, ← bl]
          exact Nat.lt_of_le_of_lt (by omega : b.length ≤ 2) (by decide)
        · obtain ⟨c, hc, rfl⟩ := List.mem_map.mp hd
          refine fun s1 H1 C1 cl1 fp1 => ?_
          refine txs_one ?_
          wtm_at "wb step_of"
          refine ox_notInS ?_
          rw [eF]
          refine asB_bl ?_
          refine ite_ndec (fun h4 => fun s2 H2 C2 cl2 fp2 => ?_) (fun h4 => ?_)
          · wtm_at "wb step_of"
            exact ⟨rfl, by simp [fSign, h4]⟩
          · exact ⟨rfl, by simp [fSign, h4]⟩
        · unfold signsD
          rw [signs_none]
          wtm_at "w step_of"
          refine ox_ne0 (n := 0) hr.units (fun d hd => ?_) (by decide) ?_
          · obtain ⟨c, hc, rfl⟩ := List.mem_map.mp hd
            have hc2 : c ∈ b.cps.toList := (List.mem_filter.mp hc).1
            have hk2 : b.cps.all (· < 0x110000) = true := hk
            rw [Array.all_eq_true'] at hk2
            have hk3 := hk2 c (Array.mem_toList_iff.mp hc2)
            refine ⟨?_, by unfold D.dep; exact Nat.le_refl 0⟩
            unfold D.okE PyData.strOk
            simpa using hk3
          · rw [List.isEmpty_map]
            refine asB_bl ?_
            have len2 : b.cps.toList.length = 1 ∨ b.cps.toList.length = 2 := by rw [← bl]; omega
            have keep : (∃ c, b.cps.toList = [c]) ∨ ∃ c d, b.cps.toList = [c, d] := by
              match b.cps.toList, len2 with
              | [c], _ => exact .inl ⟨c, rfl⟩
              | [c, d], _ => exact .inr ⟨c, d, rfl⟩
            have ex0 : ∀ c r, b.cps.toList = c :: r → atI b.cps.toList 0 = some c := fun c r e => by rw [e]; exact atI_nat (xs := c :: r) (j := 0) rfl
            have e0 : (b = ("0" : Str)) ↔ b.cps.toList = [48] := by
              have z : ("0" : Str).cps.toList = [48] := by decide +kernel
              constructor
              · intro e; rw [e]; exact z
              · intro e; exact TL.ext_tl (e.trans z.symm)
            have good : isFig b = true → Q (.tup [.str a, .int (figVal b)]) M := fun z => by
              have e : stepOf [a, b] = some (a, figVal b) := by simp [stepOf, z, h1]
              rw [e] at k
              exact k
            have fin : isFig b = true → SXs B (X_step_of P w K mg base f cdv A outer s H E) ((defBody s_step_of).drop 2) (En.df Q) (startD n_step_of [.lst ([a, b].map D.str)]) M := fun z => by
              refine sxs_one ?_
              wtm_at "w step_of"
              refine ix_l (d := .str a) rfl ?_
              wtm_at "w step_of"
              refine ix_l (d := .str b) rfl ?_
              wtm_at "w step_of"
              refine bx_intS (fig_int z) (Nat.le_trans (by omega : b.length ≤ 2) (by decide)) ?_
              wtm_at "w step_of"
              exact ⟨by show 2 ≤ sizeLine; decide, good z⟩
            refine ite_nb (fun h5 => ?_) (fun h5 => ?_)
            · -- a sign that is no figure
              wtm_at "w step_of"
              refine bad ?_
              rcases keep with ⟨c, e⟩ | ⟨c, d, e⟩
              · rw [e] at h5
                unfold isFig
                rw [e]
                by_cases hc : c ∈ figs
                · simp [hc] at h5
                · simp [hc]
              · rw [e] at h5
                unfold isFig
                rw [e]
                by_cases hc : c ∈ figs
                · by_cases hd : d ∈ figs
                  · simp [hc, hd] at h5
                  · simp [hd]
                · simp [hc]
            · have all : ∀ c ∈ b.cps.toList, c ∈ figs := fun c hc => by
                have z := List.isEmpty_iff.mp h5
                have z2 := List.filter_eq_nil_iff.mp z c hc
                simpa using z2
              wtm_at "w step_of"
              refine ix_l (d := .str b) rfl ?_
              wtm_at "w step_of"
              have hz0 : ∃ c r, b.cps.toList = c :: r := by
                rcases keep with ⟨c, e⟩ | ⟨c, d, e⟩
                · exact ⟨c, _, e⟩
                · exact ⟨c, _, e⟩
              obtain ⟨c0, r0, ec⟩ := hz0
              refine ix_s hb (ex0 c0 r0 ec) ?_
              wtm_at "w step_of"
              have ec0 : ((⟨#[c0]⟩ : Str) = ("0" : Str)) ↔ c0 = 48 := by
                have z : ("0" : Str) = ⟨#[48]⟩ := by decide +kernel
                rw [z]
                constructor
                · intro e
                  have := congrArg (fun s : Str => s.cps.toList) e
                  simpa using this
                · intro e; rw [e]
              refine ite_dec (fun h6 => ?_) (fun h6 => ?_)
              · wtm_at "w step_of"
                refine ix_l (d := .str b) rfl ?_
                wtm_at "w step_of"
                refine ite_ndec (fun h7 => ?_) (fun h7 => ?_)
                · wtm_at "w step_of"
                  refine bad ?_
                  rcases keep with ⟨c, e⟩ | ⟨c, d, e⟩
                  · rw [e] at ec
                    cases ec
                    exact absurd (e0.mpr (by rw [e, ec0.mp h6])) h7
                  · unfold isFig
                    rw [e] at ec ⊢
                    cases ec
                    simp [ec0.mp h6]
                · refine sxs_nil ?_
                  refine fin ?_
                  unfold isFig
                  rw [e0.mp h7]
                  decide
              · refine sxs_nil ?_
                refine fin ?_
                unfold isFig
                rcases keep with ⟨c, e⟩ | ⟨c, d, e⟩
                · rw [e]
                  exact decide_eq_true (all c (by rw [e]; simp))
                · rw [e] at ec
                  cases ec
                  rw [e]
                  have h8 : ¬ c0 = 48 := fun z => h6 (ec0.mpr z)
                  simp [all c0 (by rw [e]; simp), all d (by rw [e]; simp), h8]
    · wtm_at "w step_of"
      refine bad ?_
      unfold isFig
      split
      · rename_i e; rw [bl, e] at h2; simp at h2
      · rename_i e; rw [bl, e] at h2; simp at h2
      · rfl
end

/-! ### a text read -/
def linesOf (x : Str) : List Str := if x = "" then [] else Txt.split x "\n"
def wordsOf (l : Str) : List Str := Txt.split l " "
def tame (l : Str) : Prop := l.length ≤ 100000 ∧ PyData.strOk l = true
def spRead : DSp := fun ds M Q => ∃ (x : Str) (ss : List (Str × Int)), ds = [.str x] ∧ (linesOf x).map (fun l => stepOf (wordsOf l)) = ss.map some ∧ ss.length ≤ 400 ∧ x.length ≤ 100000 ∧
  (∀ l ∈ linesOf x, l.length ≤ 100000 ∧ ∀ p ∈ wordsOf l, tame p) ∧ ∀ l, M l = none → Q (.ref l) (mupd M l (.lst (ss.map encS)))
section
variable {P : Program} {w : World} {K : PySem.W.Frag} {mg : Str → Option Value} {base : Heap}
theorem ok_read {f : Addr} {fd : FuncData} (Fn : Fun K "read" "read" s_read f fd) (ze : mg "enumerate" = none) (gM : Cst K mg "MOST_STEPS" (.int 400)) (dN : Dfn P w K mg base 1 "step_of" spStepOf) : FnOk P w K mg base CX0 2 f fd ["text"] (lift K spRead) := by
  refine fun_ok Fn sc_read (fun ds M Q ⟨_, _, e, _⟩ => by rw [e]; rfl) fun cdv A outer s H E hr ds M Q h B => ?_
  obtain ⟨x, ss, rfl, hl, hn, hx, ht, k⟩ := h
  have g1 : Gb (X_read P w K mg base f cdv A outer s H E) "MOST_STEPS" (.int 400) := ⟨rfl, gM, by decide⟩
  have c1 : DfX (X_read P w K mg base f cdv A outer s H E) 1 "step_of" spStepOf := dN
  have hlen : (linesOf x).length = ss.length := by
    have e := congrArg List.length hl
    simpa using e
  have big : (100000 : Nat) + 2 ≤ sizeLine := by decide
  have n1 : (("\n" : Str).length == 0) = false := by decide +kernel
  have n2 : ((" " : Str).length == 0) = false := by decide +kernel
  wtm_at "b"
  wtm_at "w read"
  refine ex_lstM (ax_nil ⟨Nat.zero_le _, fun l fl => ?_⟩)
  wtm_at "w read"
  refine sx_for PassesOwn.never rfl (fun _ => rfl) ?_
  refine lx_enum rfl ze rfl ⟨_, _, _, rfl⟩ (EX.imp (Q := fun d M1 => d = .lst ((linesOf x).map D.str) ∧ M1 = mupd M l (.lst [])) ?_ ?_)
  · wtm_at "w read"
    refine ite_ndec (fun h1 => ?_) (fun h1 => ?_)
    · refine ex_m1 PySem.F.slot_str_split PySem.F.type_str_split rfl rfl rfl ?_
      wtm_at "w read"
      refine ⟨_, rfl, ?_⟩
      wtm_at "w read"
      refine mx_split n1 (by omega) ⟨?_, rfl⟩
      rw [linesOf, if_neg h1]
    · refine ex_lst (ax_nil ⟨Nat.zero_le _, ?_, rfl⟩)
      rw [linesOf, if_pos h1]
      rfl
  · rintro d M1 ⟨rfl, rfl⟩
    refine ⟨_, rfl, fun i G' M' => ∃ a b c, G' = [some (.str x), some (.ref l), a, b, c] ∧ M' = mupd M l (.lst ((ss.take i).map encS)), ⟨_, _, _, rfl, rfl⟩, ?_, ?_⟩
    · rintro i d G' M' hd ⟨a, b, c, rfl, rfl⟩
      obtain ⟨y, hy, rfl⟩ := enumD_at hd
      rw [List.getElem?_map] at hy
      obtain ⟨line, hline, rfl⟩ := Option.map_eq_some_iff.mp hy
      have hi : i < ss.length := by rw [← hlen]; exact (List.getElem?_eq_some_iff.mp hline).1
      obtain ⟨tl, tw⟩ := ht line (List.mem_of_getElem? hline)
      have hst : stepOf (wordsOf line) = some ss[i] := by
        have e := congrArg (fun l => l[i]?) hl
        simp only [List.getElem?_map, hline, Option.map_some] at e
        rw [List.getElem?_eq_getElem hi] at e
        simpa using e
      wtm_at "w read"
      refine ex_m1 PySem.F.slot_str_split PySem.F.type_str_split rfl rfl rfl ?_
      wtm_at "w read"
      refine ⟨_, rfl, ?_⟩
      wtm_at "w read"
      refine mx_split n2 (by omega) ?_
      wtm_at "w read"
      refine ⟨wordsOf line, rfl, fun p hp => ⟨Nat.le_trans (tw p hp).1 (by decide), (tw p hp).2⟩, ?_⟩
      rw [hst]
      wtm_at "w read"
      refine ite_dec (fun h1 => by omega) (fun _ => ?_)
      wtm_at "w read"
      refine ex_append rfl rfl rfl rfl rfl ?_
      wtm_at "w read"
      refine ⟨l, _, rfl, mupd_same, ?_⟩
      wtm_at "w read"
      refine ⟨_, mupd_same, ?_, ?_⟩
      · rw [List.length_map, List.length_take]
        exact Nat.lt_of_le_of_lt (by omega : _ ≤ 400) (by decide)
      · wtm_at "w read"
        refine ⟨_, _, _, rfl, ?_⟩
        rw [mupd_mupd, List.take_add_one, List.getElem?_eq_getElem hi, List.map_append]
        rfl
    · rintro G' M' ⟨a, b, c, rfl, rfl⟩
      wtm_at "w read"
      rw [enumD_len, List.length_map, hlen, List.take_length]
      exact k l fl
end

/-! ### the law's draws -/
/-- the row: the script, a place, a mix -/
def rowO (ns : List Int) (i z : Int) : MO := .lst [.lst (ns.map D.int), .int i, .int z]
def Row (ns : List Int) (r : Addr) (M : Mem) : Prop := ∃ (i : Nat) (z : Int), M r = some (rowO ns i z) ∧ 0 ≤ z ∧ z < 2147483647
/-- all but the cell r is as it was -/
def But (r : Addr) (M M' : Mem) : Prop := ∀ a, a ≠ r → M' a = M a
def spTaken : DSp := fun ds M Q => ∃ (ns : List Int) (r : Addr) (many : Int), ds = [.ref r, .int many] ∧ Row ns r M ∧ 0 < many ∧ ∀ k M', 0 ≤ k → k < many → Row ns r M' → But r M M' → Q (.int k) M'
section
variable {P : Program} {w : World} {K : PySem.W.Frag} {mg : Str → Option Value} {base : Heap}
theorem ok_taken {f : Addr} {fd : FuncData} (Fn : Fun K "_law_taken" "_law_taken" s_L_taken f fd) (zl : mg "len" = none) : FnOk P w K mg base CX0 1 f fd ["_law_row", "_law_many"] (lift K spTaken) := by
  refine fun_ok Fn sc_L_taken (fun ds M Q ⟨_, _, _, e, _⟩ => by rw [e]; rfl) fun cdv A outer s H E hr ds M Q h B => ?_
  obtain ⟨ns, r, many, rfl, ⟨i, z, hM, z0, z1⟩, hm, k⟩ := h
  wtm_at "b"
  have bl : Blt (X_L_taken P w K mg base f cdv A outer s H E) "len" (.builtin "len") := ⟨rfl, zl, PySem.boot_len, by decide, by decide⟩
  wtm_at "w L_taken"
  refine ix_c hM (d := .int i) rfl ?_
  wtm_at "w L_taken"
  refine gx_sub (fun _ => rfl) ?_
  wtm_at "w L_taken"
  refine ⟨r, _, 1, 1, rfl, rfl, hM, rfl, ?_⟩
  have h1 : ∀ (j w : Int), But r M (mupd M r (rowO ns j w)) := fun j w a ha => mupd_ne ha
  show SXs _ _ _ _ _ (mupd M r (rowO ns ((i : Int) + 1) z))
  wtm_at "w L_taken"
  refine ix_c mupd_same (d := .int ((i : Int) + 1)) rfl ?_

  wtm_at "w L_taken"
  refine ix_c mupd_same (d := .lst (ns.map D.int)) rfl ?_
  wtm_at "w L_taken"
  rw [List.length_map]
  refine ite_dec (fun hlt => ?_) (fun hlt => ?_)
  · wtm_at "w L_taken"
    refine ix_c mupd_same (d := .int z) rfl ?_
    wtm_at "w L_taken"
    refine ox_mul (Or.inr ⟨by decide, by decide⟩) ?_
    wtm_at "w L_taken"
    refine ox_mod (by decide) ?_
    refine gx_sub (fun _ => rfl) ?_
    wtm_at "w L_taken"
    refine ⟨r, _, 2, 2, rfl, rfl, mupd_same, rfl, ?_⟩
    rw [mupd_mupd]
    show SXs _ _ _ _ _ (mupd M r (rowO ns ((i : Int) + 1) ((z * 48271 + 11) % 2147483647)))
    wtm_at "w L_taken"
    refine ix_c mupd_same (d := .int ((z * 48271 + 11) % 2147483647)) rfl ?_
    wtm_at "w L_taken"
    refine ox_fdiv ⟨by decide, by decide⟩ ?_
    wtm_at "w L_taken"
    refine ox_mod hm ?_
    exact k _ _ (Int.emod_nonneg _ (by omega)) (Int.emod_lt_of_pos _ hm) ⟨i + 1, _, by rw [mupd_same]; rfl, Int.emod_nonneg _ (by decide), Int.emod_lt_of_pos _ (by decide)⟩ (h1 _ _)
  · have hi : i < ns.length := by omega
    wtm_at "w L_taken"
    refine ix_c mupd_same (d := .lst (ns.map D.int)) rfl ?_
    wtm_at "w L_taken"
    refine ix_c mupd_same (d := .int ((i : Int) + 1)) rfl ?_
    wtm_at "w L_taken"
    refine ix_l (d := .int (ns[i])) (atI_of (j := i) (by omega) (by simp)) ?_
    wtm_at "w L_taken"
    refine ix_c mupd_same (d := .int z) rfl ?_
    wtm_at "w L_taken"
    refine ox_mul (Or.inr ⟨by decide, by decide⟩) ?_
    wtm_at "w L_taken"
    refine ox_mod (by decide) ?_
    refine gx_sub (fun _ => rfl) ?_
    wtm_at "w L_taken"
    refine ⟨r, _, 2, 2, rfl, rfl, mupd_same, rfl, ?_⟩
    rw [mupd_mupd]
    show SXs _ _ _ _ _ (mupd M r (rowO ns ((i : Int) + 1) ((z * 48271 + ns[i] + 11) % 2147483647)))
    wtm_at "w L_taken"
    refine ox_mod hm ?_
    exact k _ _ (Int.emod_nonneg _ (by omega)) (Int.emod_lt_of_pos _ hm) ⟨i + 1, _, by rw [mupd_same]; rfl, Int.emod_nonneg _ (by decide), Int.emod_lt_of_pos _ (by decide)⟩ (h1 _ _)
end

/-! ### the same, place by place -/
def spAlike (n : Nat) : DSp := fun ds M Q => ∃ d, ds = [d, d] ∧ d.okA = true ∧ d.dep ≤ n ∧ Q (.bl true) M
section
variable {P : Program} {w : World} {K : PySem.W.Frag} {mg : Str → Option Value} {base : Heap}
theorem rec_alike {f : Addr} {fd : FuncData} (Fn : Fun K "_law_alike" "_law_alike" s_L_alike f fd) (mf : mg "_law_alike" = some (.ref f)) (zi : mg "isinstance" = none) (zt : mg "tuple" = none) (zL : mg "list" = none) (zl : mg "len" = none) (zr : mg "range" = none) (zb : mg "bool" = none) (zs : mg "str" = none) (zn : mg "int" = none) :
    ∀ n, FnOk P w K mg base CX0 (n + 1) f fd ["_law_found", "_law_due"] (lift K (spAlike n)) := by
  intro n
  induction n with
  | zero =>
    refine fun_ok Fn sc_L_alike (fun ds M Q ⟨_, e, _⟩ => by rw [e]; rfl) fun cdv A outer s H E hr ds M Q h B => ?_
    obtain ⟨d, rfl, ha, hd, k⟩ := h
    wtm_at "b"
    cases d with
    | non => wtm_at "g L_alike"; exact k
    | bl b =>
      wtm_at "g L_alike"
      rw [decide_eq_true rfl]; exact k
    | int i =>
      wtm_at "g L_alike"
      rw [decide_eq_true rfl]; exact k
    | str x =>
      wtm_at "g L_alike"
      rw [decide_eq_true rfl]; exact k
    | tup ds => exact absurd (dep_tup.mp hd).1 (by decide)
    | lst ds => exact absurd (dep_lst.mp hd).1 (by decide)
    | _ => unfold D.okA at ha; cases ha
  | succ n ih =>
    have bd := Fn.binds (ps := ["_law_found", "_law_due"]) fun _ _ _ _ _ _ us hl => match us, hl with | [_, _], _ => rfl
    refine fun_ok Fn sc_L_alike (fun ds M Q ⟨_, e, _⟩ => by rw [e]; rfl) fun cdv A outer s H E hr ds M Q h B => ?_
    obtain ⟨d, rfl, ha, hd, k⟩ := h
    have c1 : Dfn P w K mg base (n + 1) "_law_alike" (spAlike n) := ⟨f, fd, _, ih, mf, Fn.kp, bd⟩
    wtm_at "b"
    cases d with
    | non => wtm_at "g L_alike"; exact k
    | bl b =>
      wtm_at "g L_alike"
      rw [decide_eq_true rfl]; exact k
    | int i =>
      wtm_at "g L_alike"
      rw [decide_eq_true rfl]; exact k
    | str x =>
      wtm_at "g L_alike"
      rw [decide_eq_true rfl]; exact k
    | tup ds =>
      obtain ⟨hl, hA⟩ := okA_tup' ha
      have hdd := (dep_tup.mp hd).2
      wtm_at "g L_alike"
      wtm_at "lcp L_alike 0"
      case f => exact fun _ => none
      refine lx_range1 rfl zr rfl ?_
      wtm_at "g L_alike"
      refine ⟨_, rfl, by omega, by omega, ⟨?_, fun d M' hdm hm => ?_⟩, ?_⟩
      · rw [rangeD_len]
        exact Nat.lt_of_le_of_lt (by omega : _ ≤ 100000) (by decide)
      · obtain ⟨i, hi⟩ := List.mem_iff_getElem?.mp hdm
        obtain ⟨hlt, rfl⟩ := rangeD_at hi
        have hi2 : i < ds.length := by omega
        have ei : ds[i]? = some ds[i] := List.getElem?_eq_getElem hi2
        refine fun s1 H1 C1 cl1 fp1 => txs_one ?_
        wtm_at "wb L_alike"
        refine ix_t (d := ds[i]) (atI_of (i := 0 + (i : Int)) (j := i) (Int.zero_add _) ei) ?_
        wtm_at "wb L_alike"
        refine ix_t (d := ds[i]) (atI_of (i := 0 + (i : Int)) (j := i) (Int.zero_add _) ei) ?_
        wtm_at "wb L_alike"
        exact ⟨_, rfl, hA _ (List.getElem_mem hi2), hdd _ (List.getElem_mem hi2), rfl, rfl⟩
      · rw [filterMap_none]
        wtm_at "w L_alike"
        exact ox_eq0 (n := 0) hr.units (by simp) (by decide) k
    | lst ds =>
      obtain ⟨hl, hA⟩ := okA_lst' ha
      have hdd := (dep_lst.mp hd).2
      wtm_at "g L_alike"
      wtm_at "lcp L_alike 0"
      case f => exact fun _ => none
      refine lx_range1 rfl zr rfl ?_
      wtm_at "g L_alike"
      refine ⟨_, rfl, by omega, by omega, ⟨?_, fun d M' hdm hm => ?_⟩, ?_⟩
      · rw [rangeD_len]
        exact Nat.lt_of_le_of_lt (by omega : _ ≤ 100000) (by decide)
      · obtain ⟨i, hi⟩ := List.mem_iff_getElem?.mp hdm
        obtain ⟨hlt, rfl⟩ := rangeD_at hi
        have hi2 : i < ds.length := by omega
        have ei : ds[i]? = some ds[i] := List.getElem?_eq_getElem hi2
        refine fun s1 H1 C1 cl1 fp1 => txs_one ?_
        wtm_at "wb L_alike"
        refine ix_l (d := ds[i]) (atI_of (i := 0 + (i : Int)) (j := i) (Int.zero_add _) ei) ?_
        wtm_at "wb L_alike"
        refine ix_l (d := ds[i]) (atI_of (i := 0 + (i : Int)) (j := i) (Int.zero_add _) ei) ?_
        wtm_at "wb L_alike"
        exact ⟨_, rfl, hA _ (List.getElem_mem hi2), hdd _ (List.getElem_mem hi2), rfl, rfl⟩
      · rw [filterMap_none]
        wtm_at "w L_alike"
        exact ox_eq0 (n := 0) hr.units (by simp) (by decide) k
    | _ => unfold D.okA at ha; cases ha
theorem ok_L_alike {f : Addr} {fd : FuncData} (Fn : Fun K "_law_alike" "_law_alike" s_L_alike f fd) (mf : mg "_law_alike" = some (.ref f)) (zi : mg "isinstance" = none) (zt : mg "tuple" = none) (zL : mg "list" = none) (zl : mg "len" = none) (zr : mg "range" = none) (zb : mg "bool" = none) (zs : mg "str" = none) (zn : mg "int" = none) :
    FnOk P w K mg base CX0 7 f fd ["_law_found", "_law_due"] (lift K (spAlike 6)) := by
  exact rec_alike Fn mf zi zt zL zl zr zb zs zn 6
end

/-! ### drawn steps -/
def spAny : DSp := fun ds M Q => ∃ (ns : List Int) (r : Addr) (most : Int), ds = [.ref r, .int most] ∧ Row ns r M ∧ 0 ≤ most ∧ most ≤ 400 ∧
  ∀ (ss : List (Str × Int)) (M' : Mem), (∀ s ∈ ss, goodS s) → (ss.length : Int) ≤ most → Row ns r M' → But r M M' → Q (.lst (ss.map encS)) M'
theorem Row.cell {ns : List Int} {r : Addr} {M : Mem} (h : Row ns r M) : ∃ o, M r = some o := by
  obtain ⟨i, z, h, _⟩ := h
  exact ⟨_, h⟩
theorem Row.but {ns : List Int} {r : Addr} {M M' : Mem} (h : Row ns r M) (e : M' r = M r) : Row ns r M' := by
  obtain ⟨i, z, h, h2⟩ := h
  exact ⟨i, z, by rw [e]; exact h, h2⟩
theorem But.refl (r : Addr) (M : Mem) : But r M M := fun _ _ => rfl
theorem But.trans {r : Addr} {M M1 M2 : Mem} (h : But r M M1) (g : But r M1 M2) : But r M M2 := fun a ha => (g a ha).trans (h a ha)
section
variable {P : Program} {w : World} {K : PySem.W.Frag} {mg : Str → Option Value} {base : Heap}
theorem ok_L_any {f : Addr} {fd : FuncData} (Fn : Fun K "_law_any" "_law_any" s_L_any f fd) (zr : mg "range" = none) (dT : Dfn P w K mg base 1 "_law_taken" spTaken) : FnOk P w K mg base CX0 2 f fd ["_law_row", "_law_most"] (lift K spAny) := by
  refine fun_ok Fn sc_L_any (fun ds M Q ⟨_, _, _, e, _⟩ => by rw [e]; rfl) fun cdv A outer s H E hr ds M Q h B => ?_
  obtain ⟨ns, r, most, rfl, hR, h0, h1, k⟩ := h
  wtm_at "b"
  wtm_at "g L_any"
  refine ex_lst ?_
  wtm_at "g L_any"
  refine ⟨ns, r, _, rfl, hR, by omega, fun many M1 m0 m1 hR1 hB1 => ?_⟩
  wtm_at "g L_any"
  wtm_at "lc L_any 0"
  refine lx_range1 rfl zr rfl ?_
  wtm_at "g L_any"
  refine ⟨_, rfl, by omega, by omega, fun L hL => ?_⟩
  have hLr : L ≠ r := fun e => by
    obtain ⟨o, ho⟩ := hR1.cell
    rw [e, ho] at hL; cases hL
  refine ⟨fun i acc M' => ∃ ss : List (Str × Int), acc = ss.map encS ∧ ss.length = i ∧ (∀ s ∈ ss, goodS s) ∧ Row ns r M' ∧ ∀ a, a ≠ r → a ≠ L → M' a = M a, ?_, ?_, ?_⟩
  · refine ⟨[], rfl, rfl, by simp, hR1.but (mupd_ne (Ne.symm hLr)), fun a ha hb => ?_⟩
    rw [mupd_ne hb]; exact hB1 a ha
  · rintro i d acc M' hd ⟨ss, rfl, hl, hg, hR2, hB2⟩ hM
    obtain ⟨hi, rfl⟩ := rangeD_at hd
    refine fun s1 H1 C1 cl1 fp1 => txs_nil (iteT fun s2 H2 C2 cl2 fp2 => ?_)
    wtm_at "gb L_any"
    refine ⟨ns, r, _, rfl, hR2, by decide, fun k1 M3 a0 a1 hR3 hB3 => ?_⟩
    refine ix_ls (ns := stepWords) a0 a1 fun wd hwd => ?_
    wtm_at "gb L_any"
    refine ⟨ns, r, _, rfl, hR3, by decide, fun k2 M4 c0 c1 hR4 hB4 => ?_⟩
    refine ix_li (ns := [10, 100]) c0 c1 fun top htop => ?_
    wtm_at "gb L_any"
    have ht : top = 10 ∨ top = 100 := by simpa using htop
    refine ⟨ns, r, _, rfl, hR4, by omega, fun k3 M5 e0 e1 hR5 hB5 => ?_⟩
    wtm_at "gb L_any"
    refine ⟨?_, ?_, ss ++ [(wd, k3)], by rw [List.map_append]; rfl, by simp [hl], ?_, hR5.but (mupd_ne (Ne.symm hLr)), fun a ha hb => ?_⟩
    · rw [hB5 L hLr, hB4 L hLr, hB3 L hLr]; exact hM
    · rw [List.length_map]
      exact Nat.lt_of_le_of_lt (by omega : _ ≤ 1000) (by decide)
    · intro s hs
      rcases List.mem_append.mp hs with hs | hs
      · exact hg s hs
      · rw [List.mem_singleton.mp hs]
        exact ⟨hwd, e0, by rcases ht with rfl | rfl <;> omega⟩
    · rw [mupd_ne hb, hB5 a ha, hB4 a ha, hB3 a ha]
      exact hB2 a ha hb
  · rintro acc M' ⟨ss, rfl, hl, hg, hR2, hB2⟩ hM
    rw [rangeD_len] at hl
    refine k ss _ hg (by omega) ?_ ?_
    · refine hR2.but ?_
      unfold mdel
      rw [if_neg (Ne.symm hLr)]
    · intro a ha
      unfold mdel
      by_cases e : a = L
      · rw [if_pos e, e, ← hB1 L hLr, hL]
      · rw [if_neg e]; exact hB2 a ha e
end

/-! ### what is written is read -/
theorem words_of {s : Str × Int} (h : goodS s) : (10 ∉ TL.tl (rowS s)) ∧ wordsOf (rowS s) = [s.1, toString s.2] ∧ stepOf [s.1, toString s.2] = some s ∧ tame (rowS s) ∧ tame s.1 ∧ tame (toString s.2) := by
  obtain ⟨a, n⟩ := s
  obtain ⟨h1, h2, h3⟩ := h
  have hw : ∀ x ∈ stepWords, 10 ∉ TL.tl x ∧ 32 ∉ TL.tl x ∧ x.length = 4 ∧ PyData.strOk x = true := by decide +kernel
  have hn : ∀ k : Nat, k ≤ 99 → 10 ∉ TL.tl (toString (k : Int)) ∧ 32 ∉ TL.tl (toString (k : Int)) ∧ isFig (toString (k : Int)) = true ∧ figVal (toString (k : Int)) = (k : Int) ∧ (toString (k : Int) : Str).length ≤ 2 ∧ PyData.strOk (toString (k : Int)) = true := by decide +kernel
  obtain ⟨k, rfl⟩ : ∃ k : Nat, n = (k : Int) := ⟨n.toNat, by have h2' : 0 ≤ n := h2; omega⟩
  obtain ⟨w1, w2, w3, w4⟩ := hw a h1
  obtain ⟨n1, n2, n3, n4, n5, n6⟩ := hn k (by have h3' : (k : Int) ≤ 99 := h3; omega)
  have s10 : 10 ∉ TL.tl (" " : Str) := by decide +kernel
  have sL : (" " : Str).length = 1 := by decide +kernel
  have sO : PyData.strOk (" " : Str) = true := by decide +kernel
  have okApp : ∀ x y : Str, PyData.strOk x = true → PyData.strOk y = true → PyData.strOk (x ++ y) = true := by
    intro x y hx hy
    have hx' : x.cps.all (· < 0x110000) = true := hx
    have hy' : y.cps.all (· < 0x110000) = true := hy
    show (x.cps ++ y.cps).all (· < 0x110000) = true
    rw [Array.all_append, hx', hy']; rfl
  refine ⟨?_, ?_, ?_, ⟨?_, ?_⟩, ⟨by rw [w3]; decide, w4⟩, ⟨Nat.le_trans n5 (by decide), n6⟩⟩
  · unfold rowS
    rw [TL.tl_append, TL.tl_append]
    simp only [List.mem_append, not_or]
    exact ⟨⟨w1, s10⟩, n1⟩
  · have e : rowS (a, (k : Int)) = Txt.join " " [a, toString (k : Int)] := by
      rw [TL.join_eq]; rfl
    unfold wordsOf
    rw [e]
    refine TL.split_join (s := 32) (S := []) (by decide +kernel) (by decide +kernel) (by simp) ?_
    intro p hp
    rcases List.mem_cons.mp hp with rfl | hp
    · exact w2
    · rw [List.mem_singleton.mp hp]; exact n2
  · show (if a ∈ stepWords ∧ isFig (toString (k : Int)) = true then some (a, figVal (toString (k : Int))) else none) = some (a, (k : Int))
    rw [if_pos ⟨h1, n3⟩, n4]
  · have := rowS_len (show goodS (a, (k : Int)) from ⟨h1, h2, h3⟩)
    omega
  · exact okApp _ _ (okApp _ _ w4 sO) n6
theorem lines_of {ss : List (Str × Int)} (h : ∀ s ∈ ss, goodS s) : linesOf (textS ss) = ss.map rowS := by
  cases ss with
  | nil =>
    have e : textS [] = "" := by decide +kernel
    rw [e]
    unfold linesOf
    rw [if_pos rfl]; rfl
  | cons s ss =>
    have e : Txt.split (textS (s :: ss)) "\n" = (s :: ss).map rowS := by
      refine TL.split_join (s := 10) (S := []) (by decide +kernel) (by decide +kernel) (by simp) ?_
      intro p hp
      obtain ⟨z, hz, rfl⟩ := List.mem_map.mp hp
      exact (words_of (h z hz)).1
    unfold linesOf
    by_cases h0 : textS (s :: ss) = ""
    · exfalso
      rw [h0] at e
      have e2 : Txt.split "" "\n" = [("" : Str)] := by decide +kernel
      rw [e2, List.map_cons] at e
      have e3 : rowS s = "" := (List.cons.inj e).1.symm
      have l1 : (rowS s).length = (" " : Str).length + s.1.length + (toString s.2 : Str).length := by
        unfold rowS
        rw [len_app, len_app]; omega
      have sL : (" " : Str).length = 1 := by decide +kernel
      have z0 : ("" : Str).length = 0 := by decide +kernel
      rw [e3] at l1
      omega
    · rw [if_neg h0, e]
theorem text_len {ss : List (Str × Int)} (h : ∀ s ∈ ss, goodS s) (hl : ss.length ≤ 400) : (textS ss).length ≤ 100000 := by
  have h1 := PySem.StrLaws.join_length_le "\n" (ss.map rowS)
  have h2 := rows_sum h
  have h3 : ("\n" : Str).length = 1 := by decide +kernel
  have e : (textS ss).length = (Str.join "\n" (ss.map rowS)).length := by unfold textS; rw [TL.join_eq]
  rw [h3, List.length_map] at h1
  rw [e]; omega
def fRow2 : D → Option D
  | .tup [.str x, .int n] => some (.str (rowS (x, n)))
  | _ => none
section
variable {P : Program} {w : World} {K : PySem.W.Frag} {mg : Str → Option Value} {base : Heap}
theorem ok_law {f : Addr} {fd : FuncData} (Fn : Fun K "law" "law" s_law f fd) (zr : mg "range" = none) (zL : mg "list" = none) (zs : mg "str" = none) (dT : Dfn P w K mg base 1 "_law_taken" spTaken) (dA : Dfn P w K mg base 2 "_law_any" spAny)
    (dAl0 : Dfn P w K mg base 7 "_law_alike" (spAlike 6)) (dW0 : Dfn P w K mg base 4 "written" spWritten) (dR : Dfn P w K mg base 2 "read" spRead) : FnOk P w K mg base CX0 8 f fd ["_law_script"] (lift K spTrue) := by
  have dAl := dAl0.ro
  have dW := dW0.ro
  clear dAl0 dW0
  refine fun_ok Fn sc_law (fun ds M Q ⟨_, e, _⟩ => by rw [e]; rfl) fun cdv A outer s H E hr ds M Q h B => ?_
  obtain ⟨ns, rfl, hl, rfl, k⟩ := h
  wtm_at "b"
  wtm_at "g law"
  refine ex_lstM ?_
  wtm_at "g law"
  refine fun r fr => ?_
  have hR0 : Row ns r (mupd noM r (.lst [.lst (ns.map D.int), .int 0, .int 0])) := ⟨0, 0, mupd_same, by decide, by decide⟩
  wtm_at "g law"
  refine sx_for PassesOwn.never rfl (fun _ => rfl) ?_
  refine lx_range1 rfl zr rfl ?_
  wtm_at "g law"
  refine ⟨_, rfl, by decide, by decide, fun i G' M' => ∃ a2 a3 a4 a5 a6 a7 a8 a9, G' = [some (.lst (ns.map D.int)), some (.ref r), a2, a3, a4, a5, a6, a7, a8, a9] ∧ Row ns r M', ⟨_, _, _, _, _, _, _, _, rfl, hR0⟩, ?_, ?_⟩
  · rintro i d G' M' hd ⟨a2, a3, a4, a5, a6, a7, a8, a9, rfl, hR⟩
    wtm_at "g law"
    refine ⟨ns, r, _, rfl, hR, by decide, fun k1 M1 a0 a1 hR1 hB1 => ?_⟩
    refine ix_li (ns := [9, 40, 400]) a0 a1 fun top htop => ?_
    have ht : top = 9 ∨ top = 40 ∨ top = 400 := by simpa using htop
    wtm_at "g law"
    refine ⟨ns, r, top, rfl, hR1, by omega, by omega, fun ss M2 hg hsl hR2 hB2 => ?_⟩
    have hs4 : ss.length ≤ 400 := by omega
    wtm_at "g law"
    refine ex_m1 PySem.F.slot_str_join PySem.F.type_str_join rfl rfl rfl ?_
    wtm_at "g law"
    refine ⟨_, rfl, ?_⟩
    wtm_at "lcp law 0"
    case f => exact fRow2
    refine lx_list ?_
    wtm_at "g law"
    refine ⟨_, rfl, ⟨Nat.lt_of_le_of_lt (by rw [List.length_map]; exact hs4) (by decide), fun d M' hd hm => ?_⟩, ?_⟩
    · obtain ⟨st, hst, rfl⟩ := List.mem_map.mp hd
      have gs := hg st hst
      have l1 := word_len gs.1
      have l2 := (num_len gs.2.1 gs.2.2).1
      have l3 : (" " : Str).length = 1 := by decide +kernel
      refine ⟨_, rfl, rfl, fun s1 H1 C1 cl1 fp1 => ?_⟩
      refine txs_nil (iteT fun s2 H2 C2 cl2 fp2 => ?_)
      wtm_at "gb law"
      refine ox_addS (by rw [l1, l3]; decide) ?_
      wtm_at "gb law"
      refine bx_strI (num_len gs.2.1 gs.2.2).2.1 ?_
      refine ox_addS (by rw [len_app, l1, l3]; exact Nat.le_trans (Nat.add_le_add_left l2 _) (by decide)) ?_
      exact ⟨rfl, rfl⟩
    · have e : (ss.map encS).filterMap fRow2 = (ss.map rowS).map D.str := by
        rw [filterMap_enc (enc := encS) (f := fRow2) (g := fun s => D.str (rowS s)) (fun _ _ => rfl), List.map_map]
        rfl
      rw [e]
      refine mx_join ?_ ?_
      · have h2 := rows_sum hg
        have h3 : ("\n" : Str).length = 1 := by decide +kernel
        rw [List.length_map, h3]
        omega
      wtm_at "g law"
      refine bx_listL ?_
      wtm_at "g law"
      have hs : (D.lst (ss.map encS)).okE = true := by
        unfold D.okE
        refine okEs_all.mpr fun d hd => ?_
        obtain ⟨z, hz, rfl⟩ := List.mem_map.mp hd
        have t1 := (words_of (hg z hz)).2.2.2.2.1.2
        unfold encS
        simp [D.okE, okEs, t1]
      have hA : (D.lst (ss.map encS)).okA = true := by
        refine okA_lst (by rw [List.length_map]; omega) fun d hd => ?_
        obtain ⟨z, hz, rfl⟩ := List.mem_map.mp hd
        rfl
      have hD : (D.lst (ss.map encS)).dep ≤ 2 := by
        refine dep_lst.mpr ⟨by decide, fun d hd => ?_⟩
        obtain ⟨z, hz, rfl⟩ := List.mem_map.mp hd
        unfold encS
        simp [D.dep, deps]
      have hq := okEq_of hs (by omega)
      refine ro1 (.str (textS ss)) (DeepAll.self _) ⟨ss, rfl, hg, hs4, rfl⟩ rfl ?_
      wtm_at "g law"
      refine ro1 (.bl true) (DeepAll.self _) ⟨.str (textS ss), rfl, rfl, Nat.zero_le _, rfl⟩ rfl ?_
      wtm_at "g law"
      refine ox_neD hr.units hq hq ?_
      rw [eqD_self hs]
      wtm_at "g law"
      refine sx_for PassesOwn.never rfl (fun _ => rfl) ?_
      refine lx_range1 rfl zr rfl ?_
      wtm_at "g law"
      refine ⟨_, rfl, by decide, by decide, fun i G' M' => ∃ a2 a5 a6 a7 a8 a9, G' = [some (.lst (ns.map D.int)), some (.ref r), a2, some (.lst (ss.map encS)), some (.str (textS ss)), a5, a6, a7, a8, a9] ∧ Row ns r M', ⟨_, _, _, _, _, _, rfl, hR2⟩, ?_, ?_⟩
      · rintro i d G' M' hd ⟨a2, a5, a6, a7, a8, a9, rfl, hR⟩
        wtm_at "g law"
        refine ⟨textS ss, ss, rfl, ?_, hs4, text_len hg hs4, ?_, fun l fl => ?_⟩
        · rw [lines_of hg, List.map_map]
          refine List.map_congr_left fun z hz => ?_
          show stepOf (wordsOf (rowS z)) = some z
          obtain ⟨_, w2, w3, _⟩ := words_of (hg z hz)
          rw [w2, w3]
        · rw [lines_of hg]
          intro l hl
          obtain ⟨z, hz, rfl⟩ := List.mem_map.mp hl
          obtain ⟨_, w2, w3, w4, w5, w6⟩ := words_of (hg z hz)
          refine ⟨w4.1, fun p hp => ?_⟩
          rw [w2] at hp
          rcases List.mem_cons.mp hp with rfl | hp
          · exact w5
          · rw [List.mem_singleton.mp hp]; exact w6
        have hlr : l ≠ r := fun e => by
          obtain ⟨o, ho⟩ := hR.cell
          rw [e, ho] at fl; cases fl
        wtm_at "g law"
        refine ro1 (.bl true) (.cons (.cell mupd_same (DeepAll.self _)) (DeepAll.self _)) ⟨.lst (ss.map encS), rfl, hA, by omega, rfl⟩ rfl ?_
        wtm_at "g law"
        refine ro1 (.str (textS ss)) (.cons (.cell mupd_same (DeepAll.self _)) .nil) ⟨ss, rfl, hg, hs4, rfl⟩ rfl ?_
        wtm_at "g law"
        refine ex_append rfl rfl rfl rfl rfl ?_
        wtm_at "g law"
        refine ⟨l, _, rfl, mupd_same, ?_⟩
        wtm_at "g law"
        refine ⟨_, mupd_same, ?_, ?_⟩
        · rw [List.length_map]
          exact Nat.lt_of_le_of_lt hs4 (by decide)
        wtm_at "g law"
        refine ⟨_, _, _, _, _, _, rfl, hR.but ?_⟩
        rw [mupd_mupd, mupd_ne (Ne.symm hlr)]
      · rintro G' M' ⟨a2, a5, a6, a7, a8, a9, rfl, hR⟩
        exact ⟨_, _, _, _, _, _, _, _, rfl, hR⟩
  · rintro G' M' ⟨a2, a3, a4, a5, a6, a7, a8, a9, rfl, hR⟩
    wtm_at "g law"
    exact k _
end

def hfn : List He.DefD := [defAt ("is_number", none) "is_number" "is_number" s_is_number,
  defAt ("is_step", none) "is_step" "is_step" s_is_step,
  defAt ("need_steps", none) "need_steps" "need_steps" s_need_steps,
  defAt ("written", none) "written" "written" s_written,
  defAt ("step_of", none) "step_of" "step_of" s_step_of,
  defAt ("read", none) "read" "read" s_read,
  defAt ("_law_taken", none) "_law_taken" "_law_taken" s_L_taken,
  defAt ("_law_alike", none) "_law_alike" "_law_alike" s_L_alike,
  defAt ("_law_any", none) "_law_any" "_law_any" s_L_any,
  defAt ("law", none) "law" "law" s_law]
def hfa0 : List He.Fa := [.glo "is_number", .glo "is_step", .glo "need_steps", .glo "written", .glo "step_of", .glo "read", .glo "_law_taken", .glo "_law_alike", .glo "_law_any", .glo "law", .free "bool", .free "enumerate", .free "int", .free "isinstance", .free "len", .free "list", .free "range", .free "str", .free "tuple", .str "FIGURES" "0123456789", .int "MOST_NUMBER" 99, .int "MOST_STEPS" 400, .glo "STEPS"]
def hfa : List He.Fa := hfa0
def hloose0 : List Str := ["__name__", "LinkError", "BadStep", "BadText", "is_number", "MOST_STEPS", "MOST_NUMBER", "STEPS", "FIGURES", "is_step", "need_steps", "written", "step_of", "read", "_law_taken", "_law_alike", "_law_any"]
def hloose : List Str := hloose0
def hexB (K : PySem.W.Frag) : Bool := (He.tupB K "STEPS" ((["send", "call", "lose", "beat"] : List Str).map He.Dv.str)) && true
abbrev hR : PySem.W.OpenRow := PySem.W.OpenLaw.row PySem.Challenge.rw_faruplink_k16_written_and_read
abbrev hk : PySem.W.Hook := He.hookX 6 hfa hfn [] [] hexB
def hob (s : PySem.W.SharedT) : He.AlX := He.obsX 6 hfa hfn [] [] hexB (HandSHeadRun.getT s)
theorem hob_eq (s : PySem.W.SharedT) : hob s = hk.obs s.abs := He.obsX_eq (HandSHeadRun.getT_eq s)
set_option maxHeartbeats 0 in
theorem hrun (w : World) : HandSHeadRun.RunEq hR (PySem.W.view hR.prog [20]) hk hob 4000 hloose w := by
  intro os
  kernel_rfl
theorem hfacts {P : Program} {w : World} {K : PySem.W.Frag} {h : Heap} {mg : Str → Option Value} {fl : Addr} (X : K.In h) (G : h.Ns mainGlobals mg) (hfa0 : mg ("law" : Str) = some (.ref fl)) (c0 : He.SaysX hfa hfn [] [] hexB w h K) :
    ∃ fd : FuncData, (∀ (s : Shared) (v : Value), BindsTo s fd ⟨[v], []⟩ [("_law_script", v)]) ∧ ∀ base : Heap, K.In base → base.Ns mainGlobals mg → FnOk P w K mg base CX0 8 fl fd ["_law_script"] (lift K spTrue) := by
  have c : He.SaysD hfa hfn K := c0.t.d
  have cx : hexB K = true := c0.more
  simp only [hexB, Bool.and_eq_true] at cx
  obtain ⟨cx0, _⟩ := cx
  have z_bool : mg "bool" = none := He.free_ok X G (c.fact 10 rfl)
  have z_enumerate : mg "enumerate" = none := He.free_ok X G (c.fact 11 rfl)
  have z_int : mg "int" = none := He.free_ok X G (c.fact 12 rfl)
  have z_isinstance : mg "isinstance" = none := He.free_ok X G (c.fact 13 rfl)
  have z_len : mg "len" = none := He.free_ok X G (c.fact 14 rfl)
  have z_list : mg "list" = none := He.free_ok X G (c.fact 15 rfl)
  have z_range : mg "range" = none := He.free_ok X G (c.fact 16 rfl)
  have z_str : mg "str" = none := He.free_ok X G (c.fact 17 rfl)
  have z_tuple : mg "tuple" = none := He.free_ok X G (c.fact 18 rfl)
  have k_FIGURES := cst_str X G (x := "FIGURES") (z := "0123456789") (c.fact 19 rfl)
  have k_MOST_NUMBER := cst_int X G (x := "MOST_NUMBER") (i := 99) (c.fact 20 rfl)
  have k_MOST_STEPS := cst_int X G (x := "MOST_STEPS") (i := 400) (c.fact 21 rfl)
  have k_STEPS := cst_tup X G (c.fact 22 (f := .glo "STEPS") rfl) (zs := ["send", "call", "lose", "beat"]) cx0
  obtain ⟨fd_is_number, F0_is_number⟩ := c.def_ 0 (d := defAt ("is_number", none) "is_number" "is_number" s_is_number) rfl
  have F_is_number : Fun K "is_number" "is_number" s_is_number _ fd_is_number := fun_of F0_is_number
  have m_is_number := He.glo_ok X G (c.fact 0 (f := .glo "is_number") rfl)
  have b_is_number := F_is_number.binds (ps := ["part", "low", "high"]) fun _ _ _ _ _ _ us hl => match us, hl with | [_, _, _], _ => rfl
  have d_is_number : ∀ base : Heap, Dfn P w K mg base 1 "is_number" spIsNumber := fun base => dfn_mk (by apply ok_is_number F_is_number <;> first | assumption | apply_assumption) m_is_number F_is_number.kp b_is_number
  obtain ⟨fd_is_step, F0_is_step⟩ := c.def_ 1 (d := defAt ("is_step", none) "is_step" "is_step" s_is_step) rfl
  have F_is_step : Fun K "is_step" "is_step" s_is_step _ fd_is_step := fun_of F0_is_step
  have m_is_step := He.glo_ok X G (c.fact 1 (f := .glo "is_step") rfl)
  have b_is_step := F_is_step.binds (ps := ["step"]) fun _ _ _ _ _ _ us hl => match us, hl with | [_], _ => rfl
  have d_is_step : ∀ base : Heap, Dfn P w K mg base 2 "is_step" spIsStep := fun base => dfn_mk (by apply ok_is_step F_is_step <;> first | assumption | apply_assumption) m_is_step F_is_step.kp b_is_step
  obtain ⟨fd_need_steps, F0_need_steps⟩ := c.def_ 2 (d := defAt ("need_steps", none) "need_steps" "need_steps" s_need_steps) rfl
  have F_need_steps : Fun K "need_steps" "need_steps" s_need_steps _ fd_need_steps := fun_of F0_need_steps
  have m_need_steps := He.glo_ok X G (c.fact 2 (f := .glo "need_steps") rfl)
  have b_need_steps := F_need_steps.binds (ps := ["steps"]) fun _ _ _ _ _ _ us hl => match us, hl with | [_], _ => rfl
  have d_need_steps : ∀ base : Heap, Dfn P w K mg base 3 "need_steps" spNeedSteps := fun base => dfn_mk (by apply ok_need_steps F_need_steps <;> first | assumption | apply_assumption) m_need_steps F_need_steps.kp b_need_steps
  obtain ⟨fd_written, F0_written⟩ := c.def_ 3 (d := defAt ("written", none) "written" "written" s_written) rfl
  have F_written : Fun K "written" "written" s_written _ fd_written := fun_of F0_written
  have m_written := He.glo_ok X G (c.fact 3 (f := .glo "written") rfl)
  have b_written := F_written.binds (ps := ["steps"]) fun _ _ _ _ _ _ us hl => match us, hl with | [_], _ => rfl
  have d_written : ∀ base : Heap, Dfn P w K mg base 4 "written" spWritten := fun base => dfn_mk (by apply ok_written F_written <;> first | assumption | apply_assumption) m_written F_written.kp b_written
  obtain ⟨fd_step_of, F0_step_of⟩ := c.def_ 4 (d := defAt ("step_of", none) "step_of" "step_of" s_step_of) rfl
  have F_step_of : Fun K "step_of" "step_of" s_step_of _ fd_step_of := fun_of F0_step_of
  have m_step_of := He.glo_ok X G (c.fact 4 (f := .glo "step_of") rfl)
  have b_step_of := F_step_of.binds (ps := ["words"]) fun _ _ _ _ _ _ us hl => match us, hl with | [_], _ => rfl
  have d_step_of : ∀ base : Heap, Dfn P w K mg base 1 "step_of" spStepOf := fun base => dfn_mk (by apply ok_step_of F_step_of <;> first | assumption | apply_assumption) m_step_of F_step_of.kp b_step_of
  obtain ⟨fd_read, F0_read⟩ := c.def_ 5 (d := defAt ("read", none) "read" "read" s_read) rfl
  have F_read : Fun K "read" "read" s_read _ fd_read := fun_of F0_read
  have m_read := He.glo_ok X G (c.fact 5 (f := .glo "read") rfl)
  have b_read := F_read.binds (ps := ["text"]) fun _ _ _ _ _ _ us hl => match us, hl with | [_], _ => rfl
  have d_read : ∀ base : Heap, Dfn P w K mg base 2 "read" spRead := fun base => dfn_mk (by apply ok_read F_read <;> first | assumption | apply_assumption) m_read F_read.kp b_read
  obtain ⟨fd_taken, F0_taken⟩ := c.def_ 6 (d := defAt ("_law_taken", none) "_law_taken" "_law_taken" s_L_taken) rfl
  have F_taken : Fun K "_law_taken" "_law_taken" s_L_taken _ fd_taken := fun_of F0_taken
  have m_taken := He.glo_ok X G (c.fact 6 (f := .glo "_law_taken") rfl)
  have b_taken := F_taken.binds (ps := ["_law_row", "_law_many"]) fun _ _ _ _ _ _ us hl => match us, hl with | [_, _], _ => rfl
  have d_taken : ∀ base : Heap, Dfn P w K mg base 1 "_law_taken" spTaken := fun base => dfn_mk (by apply ok_taken F_taken <;> first | assumption | apply_assumption) m_taken F_taken.kp b_taken
  obtain ⟨fd_L_alike, F0_L_alike⟩ := c.def_ 7 (d := defAt ("_law_alike", none) "_law_alike" "_law_alike" s_L_alike) rfl
  have F_L_alike : Fun K "_law_alike" "_law_alike" s_L_alike _ fd_L_alike := fun_of F0_L_alike
  have m_L_alike := He.glo_ok X G (c.fact 7 (f := .glo "_law_alike") rfl)
  have b_L_alike := F_L_alike.binds (ps := ["_law_found", "_law_due"]) fun _ _ _ _ _ _ us hl => match us, hl with | [_, _], _ => rfl
  have d_L_alike : ∀ base : Heap, Dfn P w K mg base 7 "_law_alike" (spAlike 6) := fun base => dfn_mk (by apply ok_L_alike F_L_alike <;> first | assumption | apply_assumption) m_L_alike F_L_alike.kp b_L_alike
  obtain ⟨fd_L_any, F0_L_any⟩ := c.def_ 8 (d := defAt ("_law_any", none) "_law_any" "_law_any" s_L_any) rfl
  have F_L_any : Fun K "_law_any" "_law_any" s_L_any _ fd_L_any := fun_of F0_L_any
  have m_L_any := He.glo_ok X G (c.fact 8 (f := .glo "_law_any") rfl)
  have b_L_any := F_L_any.binds (ps := ["_law_row", "_law_most"]) fun _ _ _ _ _ _ us hl => match us, hl with | [_, _], _ => rfl
  have d_L_any : ∀ base : Heap, Dfn P w K mg base 2 "_law_any" spAny := fun base => dfn_mk (by apply ok_L_any F_L_any <;> first | assumption | apply_assumption) m_L_any F_L_any.kp b_L_any
  obtain ⟨fd_law, F0_law⟩ := c.def_ 9 (d := defAt ("law", none) "law" "law" s_law) rfl
  have F_law : Fun K "law" "law" s_law _ fd_law := fun_of F0_law
  have m_law := He.glo_ok X G (c.fact 9 (f := .glo "law") rfl)
  have e := hfa0.symm.trans m_law
  cases e
  exact ⟨fd_law, fun s v => FunD.bindsA (ps := ["_law_script"]) F0_law (fun _ _ _ _ _ _ us hl => match us, hl with | [_], _ => rfl) s [v] rfl, fun base _ _ => by apply ok_law F_law <;> first | assumption | apply_assumption⟩
end Lw
open PySem PySem.W PySem.Calls PyProof.Rows
set_option maxHeartbeats 0 in
theorem PySem.Challenge.cw_faruplink_k16_written_and_read_holds : PySem.Challenge.rw_faruplink_k16_written_and_read.Holds := by
  w_on; o_law
  refine HandSHeadRun.head_any (r := OpenLaw.row PySem.Challenge.rw_faruplink_k16_written_and_read) (q := view (OpenLaw.row PySem.Challenge.rw_faruplink_k16_written_and_read).prog [20]) (H := Lw.hk) (ob := Lw.hob) (M := 4000) (loose := Lw.hloose) (d := HandSHeadRun.topDef (OpenLaw.row PySem.Challenge.rw_faruplink_k16_written_and_read).prog 20) (kwd := []) Lw.hob_eq
    (by kernel_rfl) (fun s => by kernel_rfl) Lw.hrun (by kernel_rfl) (by kernel_rfl) (by kernel_rfl) (by rfl) (by first | assumption | decide +kernel) (by decide +kernel) ⟨rfl, rfl, rfl, rfl, rfl, by decide +kernel⟩ ?hw ?hc
  case hw => w_witness2
  case hc =>
    refine L2.walk_ofE (l := PySem.Challenge.rw_faruplink_k16_written_and_read) (n := 63) (k := 8) (x := "_law_script") (CX := L2.CX0) rfl (by decide) (by kernel_rfl) ⟨rfl, by decide, by decide⟩ ?F (fun _ _ _ _ z => z)
    intro w mg fa h Y G hmg0
    obtain ⟨K, KX, c⟩ := Y
    have hmg : mg ("law" : PySem.Str) = some (.ref fa) := by
      have e : (HandSHeadRun.topDef (OpenLaw.row PySem.Challenge.rw_faruplink_k16_written_and_read).prog 20).name = ("law" : PySem.Str) := by kernel_rfl
      rw [← e]
      exact hmg0
    obtain ⟨fd, hb, hF⟩ := Lw.hfacts (P := (PySem.Challenge.rw_faruplink_k16_written_and_read).prog) (w := w) KX G hmg c
    exact ⟨K, fd, FL.lift K FL.spTrue, KX, hb, fun H a ns hl _ hS => FL.law_sp hl hS, hF⟩
