import PyProof.Rows.All
import Wide.All
import OpenK.AllK
import Wide.FinOn
import HandS.ForMost
import HandS.IsInst
import HandS.Walk
import HandS.Conv
import HandS.FStr
import HandS.Defaults
import HandS.Head0
import HandS.Head1
import HandS.Head2
import HandS.HeadEnd
import HandS.HeadHook1
import HandS.HeadHook2
import HandS.HeadHook3
import HandS.HeadHook4
import KE.GoesMore
import HandS.TupAny
import HandS.TupMul
import HandS.SortInts
import KE.LtData
import HandS.Set
import HandS.Strs
import HandS.SetFor
import PySem.Challenge.RW_faruplink_k13_whole_told_losses_keep_it
set_option Elab.async false
set_option linter.all false
set_option maxRecDepth 100000
set_option maxHeartbeats 2000000
/-! FL: a calculus over plain data. A state is: the slots' data (G), and the mutable cells (M). What is immutable has no address here. -/
namespace FL
open PySem PySem.Spec PyProof.Rows L2

/-- plain data -/
inductive D where
  | non | bl (b : Bool) | int (i : Int) | str (x : Str) | ref (a : Addr) | ty (n : String)
  | tup (ds : List D) | lst (ds : List D) | fzl (ds : List D)
  | dK (kvs : List (Key × D)) | dT (kvs : List (List Key × D))

mutual
/-- in the heap of what stays, F, the value is that data -/
inductive Rp (K : PySem.W.Frag) (F : Hp) : V → D → Prop
  | non : Rp K F .non .non
  | bl (b : Bool) : Rp K F (.bl b) (.bl b)
  | int (i : Int) : Rp K F (.int i) (.int i)
  | str (x : Str) : Rp K F (.str x) (.str x)
  | ref (a : Addr) : Rp K F (.ref a) (.ref a)
  | ty (n : String) : Rp K F (.ty n) (.ty n)
  | tup {a : Addr} {xs : List V} {ds : List D} : SqT K F a xs → RpAll K F xs ds → Rp K F (.ref a) (.tup ds)
  | lst {a : Addr} {xs : List V} {ds : List D} : F a = some (.lst xs) → RpAll K F xs ds → Rp K F (.ref a) (.lst ds)
  | fzl {a : Addr} {xs : List V} {ds : List D} : SqL K F a xs → RpAll K F xs ds → Rp K F (.ref a) (.fzl ds)
  | dK {a : Addr} {kvs : List (Key × V)} {kds : List (Key × D)} : F a = some (.dK kvs) → RpKey K F kvs kds → Rp K F (.ref a) (.dK kds)
  | dT {a : Addr} {kvs : List (List Key × V)} {kds : List (List Key × D)} : F a = some (.dT kvs) → RpTup K F kvs kds → Rp K F (.ref a) (.dT kds)
inductive RpAll (K : PySem.W.Frag) (F : Hp) : List V → List D → Prop
  | nil : RpAll K F [] []
  | cons {v : V} {vs : List V} {d : D} {ds : List D} : Rp K F v d → RpAll K F vs ds → RpAll K F (v :: vs) (d :: ds)
inductive RpKey (K : PySem.W.Frag) (F : Hp) : List (Key × V) → List (Key × D) → Prop
  | nil : RpKey K F [] []
  | cons {k : Key} {v : V} {vs : List (Key × V)} {d : D} {ds : List (Key × D)} : Rp K F v d → RpKey K F vs ds → RpKey K F ((k, v) :: vs) ((k, d) :: ds)
inductive RpTup (K : PySem.W.Frag) (F : Hp) : List (List Key × V) → List (List Key × D) → Prop
  | nil : RpTup K F [] []
  | cons {k : List Key} {v : V} {vs : List (List Key × V)} {d : D} {ds : List (List Key × D)} : Rp K F v d → RpTup K F vs ds → RpTup K F ((k, v) :: vs) ((k, d) :: ds)
end

theorem sq_same {K : PySem.W.Frag} {F F' : Hp} {a : Addr} {xs : List V} (e : Same F F') (h : SqT K F a xs) : SqT K F' a xs := by
  rcases h with (h | ⟨o, h⟩) | h
  · exact .inl (.inl (e _ _ h))
  · exact .inl (.inr ⟨o, e _ _ h⟩)
  · exact .inr h

mutual
theorem Rp.mono {K : PySem.W.Frag} {F F' : Hp} (e : Same F F') : ∀ {v : V} {d : D}, Rp K F v d → Rp K F' v d
  | _, _, .non => .non
  | _, _, .bl b => .bl b
  | _, _, .int i => .int i
  | _, _, .str x => .str x
  | _, _, .ref a => .ref a
  | _, _, .ty n => .ty n
  | _, _, .tup h r => .tup (sq_same e h) (RpAll.mono e r)
  | _, _, .lst h r => .lst (e _ _ h) (RpAll.mono e r)
  | _, _, .fzl h r => .fzl (e.seq h) (RpAll.mono e r)
  | _, _, .dK h r => .dK (e _ _ h) (RpKey.mono e r)
  | _, _, .dT h r => .dT (e _ _ h) (RpTup.mono e r)
theorem RpAll.mono {K : PySem.W.Frag} {F F' : Hp} (e : Same F F') : ∀ {vs : List V} {ds : List D}, RpAll K F vs ds → RpAll K F' vs ds
  | _, _, .nil => .nil
  | _, _, .cons h r => .cons (Rp.mono e h) (RpAll.mono e r)
theorem RpKey.mono {K : PySem.W.Frag} {F F' : Hp} (e : Same F F') : ∀ {vs : List (Key × V)} {ds : List (Key × D)}, RpKey K F vs ds → RpKey K F' vs ds
  | _, _, .nil => .nil
  | _, _, .cons h r => .cons (Rp.mono e h) (RpKey.mono e r)
theorem RpTup.mono {K : PySem.W.Frag} {F F' : Hp} (e : Same F F') : ∀ {vs : List (List Key × V)} {ds : List (List Key × D)}, RpTup K F vs ds → RpTup K F' vs ds
  | _, _, .nil => .nil
  | _, _, .cons h r => .cons (Rp.mono e h) (RpTup.mono e r)
end

section
variable {K : PySem.W.Frag} {F : Hp}
theorem RpAll.length : ∀ {vs : List V} {ds : List D}, RpAll K F vs ds → vs.length = ds.length
  | _, _, .nil => rfl
  | _, _, .cons _ r => by rw [List.length_cons, List.length_cons, RpAll.length r]
theorem RpAll.get : ∀ {vs : List V} {ds : List D} {i : Nat} {d : D}, RpAll K F vs ds → ds[i]? = some d → ∃ v, vs[i]? = some v ∧ Rp K F v d
  | _, _, _, _, .nil, h => by simp at h
  | _, _, 0, _, .cons r _, h => by
    simp at h; subst h; exact ⟨_, rfl, r⟩
  | _, _, i + 1, d, .cons _ r, h => by
    obtain ⟨v, h1, h2⟩ := RpAll.get (i := i) (d := d) r (by simpa using h)
    exact ⟨v, by simpa using h1, h2⟩
theorem RpAll.getV : ∀ {vs : List V} {ds : List D} {i : Nat} {v : V}, RpAll K F vs ds → vs[i]? = some v → ∃ d, ds[i]? = some d ∧ Rp K F v d
  | _, _, _, _, .nil, h => by simp at h
  | _, _, 0, _, .cons r _, h => by
    simp at h; subst h; exact ⟨_, rfl, r⟩
  | _, _, i + 1, v, .cons _ r, h => by
    obtain ⟨d, h1, h2⟩ := RpAll.getV (i := i) (v := v) r (by simpa using h)
    exact ⟨d, by simpa using h1, h2⟩
theorem RpAll.append : ∀ {vs ws : List V} {ds es : List D}, RpAll K F vs ds → RpAll K F ws es → RpAll K F (vs ++ ws) (ds ++ es)
  | _, _, _, _, .nil, s => s
  | _, _, _, _, .cons h r, s => .cons h (RpAll.append r s)
theorem RpAll.set : ∀ {vs : List V} {ds : List D} (i : Nat) {v : V} {d : D}, RpAll K F vs ds → Rp K F v d → RpAll K F (vs.set i v) (ds.set i d)
  | _, _, _, _, _, .nil, _ => .nil
  | _, _, 0, _, _, .cons _ r, h => .cons h r
  | _, _, i + 1, _, _, .cons q r, h => .cons q (RpAll.set i r h)
theorem RpAll.take : ∀ {vs : List V} {ds : List D} (n : Nat), RpAll K F vs ds → RpAll K F (vs.take n) (ds.take n)
  | _, _, 0, _ => .nil
  | _, _, _ + 1, .nil => .nil
  | _, _, n + 1, .cons h r => .cons h (RpAll.take n r)
theorem RpAll.drop : ∀ {vs : List V} {ds : List D} (n : Nat), RpAll K F vs ds → RpAll K F (vs.drop n) (ds.drop n)
  | _, _, 0, r => r
  | _, _, _ + 1, .nil => .nil
  | _, _, n + 1, .cons _ r => RpAll.drop n r
theorem RpAll.eraseIdx : ∀ {vs : List V} {ds : List D} (n : Nat), RpAll K F vs ds → RpAll K F (vs.eraseIdx n) (ds.eraseIdx n)
  | _, _, _, .nil => .nil
  | _, _, 0, .cons _ r => r
  | _, _, n + 1, .cons h r => .cons h (RpAll.eraseIdx n r)
theorem RpAll.ints : ∀ {ns : List Int}, RpAll K F (ns.map V.int) (ns.map D.int)
  | [] => .nil
  | _ :: _ => .cons (.int _) RpAll.ints
theorem RpAll.strs : ∀ {ns : List Str}, RpAll K F (ns.map V.str) (ns.map D.str)
  | [] => .nil
  | _ :: _ => .cons (.str _) RpAll.strs
end

/-- what stands in a mutable cell -/
inductive MO where
  | lst (ds : List D) | ins (C : Addr) (fs : List (Str × D)) | dK (kvs : List (Key × D)) | dT (kvs : List (List Key × D))
abbrev Mem := Addr → Option MO
def mupd (M : Mem) (a : Addr) (o : MO) : Mem := fun b => if b = a then some o else M b
theorem mupd_same {M : Mem} {a : Addr} {o : MO} : mupd M a o a = some o := by unfold mupd; rw [if_pos rfl]
theorem mupd_ne {M : Mem} {a b : Addr} {o : MO} (h : b ≠ a) : mupd M a o b = M b := by unfold mupd; rw [if_neg h]
theorem mupd_mupd {M : Mem} {a : Addr} {o u : MO} : mupd (mupd M a o) a u = mupd M a u := by
  funext b; unfold mupd; split <;> rfl
/-- the cell is forgotten -/
def mdel (M : Mem) (a : Addr) : Mem := fun b => if b = a then none else M b
theorem mdel_mupd {M : Mem} {a : Addr} {o : MO} (h : M a = none) : mdel (mupd M a o) a = M := by
  funext b
  unfold mdel mupd
  by_cases e : b = a
  · subst e; rw [if_pos rfl, h]
  · rw [if_neg e, if_neg e]
theorem mne {M : Mem} {a b : Addr} {o : MO} (h : M a = some o) (h' : M b = none) : a ≠ b := by
  intro e; subst e; rw [h] at h'; cases h'
theorem mnes {M : Mem} {a b : Addr} {o : MO} (h : M a = some o) (h' : M b = none) : b ≠ a := fun e => mne h h' e.symm

/-- fields by name, in order -/
inductive FsRp (K : PySem.W.Frag) (F : Hp) : List (Str × V) → List (Str × D) → Prop
  | nil : FsRp K F [] []
  | cons {k : Str} {v : V} {vs : List (Str × V)} {d : D} {ds : List (Str × D)} : Rp K F v d → FsRp K F vs ds → FsRp K F ((k, v) :: vs) ((k, d) :: ds)
theorem FsRp.mono {K : PySem.W.Frag} {F F' : Hp} (e : Same F F') : ∀ {vs : List (Str × V)} {ds : List (Str × D)}, FsRp K F vs ds → FsRp K F' vs ds
  | _, _, .nil => .nil
  | _, _, .cons h r => .cons (h.mono e) (FsRp.mono e r)
def MRp (K : PySem.W.Frag) (F H : Hp) (a : Addr) : MO → Prop
  | .lst ds => ∃ xs, H a = some (.lst xs) ∧ RpAll K F xs ds
  | .ins C fs => ∃ dx vs, H a = some (.ins C dx vs) ∧ FsRp K F vs fs
  | .dK kvs => ∃ vs, H a = some (.dK vs) ∧ RpKey K F vs kvs
  | .dT kvs => ∃ vs, H a = some (.dT vs) ∧ RpTup K F vs kvs
def MemOk (K : PySem.W.Frag) (F H : Hp) (M : Mem) : Prop := ∀ a o, M a = some o → F a = none ∧ MRp K F H a o
def SlotsOk (K : PySem.W.Frag) (F : Hp) (s : L2.St) (G : List (Option D)) : Prop := G.length = s.length ∧ ∀ (i : Nat) (d : D), G[i]? = some (some d) → ∃ v, s[i]? = some (some v) ∧ Rp K F v d
/-- where a piece of code began: what stays, the cells, the heap -/
structure Bs where
  F : Hp
  M : Mem
  H : Hp
/-- what was no cell is as it was -/
def Kp (M : Mem) (H : Hp) (M' : Mem) (H' : Hp) : Prop := ∀ a u, H a = some u → M a = none → H' a = some u ∧ M' a = none
theorem Kp.refl (M : Mem) (H : Hp) : Kp M H M H := fun _ _ h m => ⟨h, m⟩
theorem Kp.trans {M M1 M2 : Mem} {H H1 H2 : Hp} (a : Kp M H M1 H1) (b : Kp M1 H1 M2 H2) : Kp M H M2 H2 := fun x u h m => b x u (a x u h m).1 (a x u h m).2
theorem Kp.heap {M : Mem} {H H' : Hp} (e : Same H H') : Kp M H M H' := fun a u h m => ⟨e a u h, m⟩
theorem Kp.less {M M' : Mem} {H : Hp} (h : ∀ a o, M' a = some o → M a = some o) : Kp M H M' H := fun a u e m => ⟨e, by
  cases q : M' a with
  | none => rfl
  | some o => rw [h a o q] at m; cases m⟩
structure R (B : Bs) (K : PySem.W.Frag) (F : Hp) (s : L2.St) (H : Hp) (G : List (Option D)) (M : Mem) : Prop where
  slots : SlotsOk K F s G
  ex : Same F H
  mem : MemOk K F H M
  bf : Same B.F F
  bk : Kp B.M B.H M H

section
variable {B : Bs} {K : PySem.W.Frag} {F F' H H' : Hp} {s : L2.St} {G : List (Option D)} {M M' : Mem}
theorem MRp.mono {a : Addr} (e : Same F F') : ∀ {o : MO}, MRp K F H a o → MRp K F' H a o
  | .lst _, ⟨xs, h, r⟩ => ⟨xs, h, r.mono e⟩
  | .ins _ _, ⟨dx, vs, h, r⟩ => ⟨dx, vs, h, r.mono e⟩
  | .dK _, ⟨xs, h, r⟩ => ⟨xs, h, r.mono e⟩
  | .dT _, ⟨xs, h, r⟩ => ⟨xs, h, r.mono e⟩
theorem MRp.there {a : Addr} : ∀ {o : MO}, MRp K F H a o → ∃ u, H a = some u ∧ ∀ xs, u ≠ .tup xs
  | .lst _, ⟨xs, h, r⟩ => ⟨_, h, fun _ e => nomatch e⟩
  | .ins _ _, ⟨dx, vs, h, r⟩ => ⟨_, h, fun _ e => nomatch e⟩
  | .dK _, ⟨xs, h, r⟩ => ⟨_, h, fun _ e => nomatch e⟩
  | .dT _, ⟨xs, h, r⟩ => ⟨_, h, fun _ e => nomatch e⟩
theorem MRp.heap {a : Addr} (e : ∀ u, H a = some u → H' a = some u) : ∀ {o : MO}, MRp K F H a o → MRp K F H' a o
  | .lst _, ⟨xs, h, r⟩ => ⟨xs, e _ h, r⟩
  | .ins _ _, ⟨dx, vs, h, r⟩ => ⟨dx, vs, e _ h, r⟩
  | .dK _, ⟨xs, h, r⟩ => ⟨xs, e _ h, r⟩
  | .dT _, ⟨xs, h, r⟩ => ⟨xs, e _ h, r⟩
theorem SlotsOk.mono (e : Same F F') (h : SlotsOk K F s G) : SlotsOk K F' s G := ⟨h.1, fun i d q => by
  obtain ⟨v, h1, h2⟩ := h.2 i d q
  exact ⟨v, h1, h2.mono e⟩⟩
theorem SlotsOk.set {i : Nat} {v : V} {d : D} (h : SlotsOk K F s G) (r : Rp K F v d) : SlotsOk K F (s.set i (some v)) (G.set i (some d)) := by
  refine ⟨by simpa using h.1, fun j e q => ?_⟩
  by_cases hj : i = j
  · subst hj
    by_cases hi : i < G.length
    · rw [List.getElem?_set_self hi] at q
      cases q
      exact ⟨v, by rw [List.getElem?_set_self (by rw [← h.1]; exact hi)], r⟩
    · rw [List.getElem?_eq_none (by simpa using hi)] at q
      cases q
  · rw [List.getElem?_set_ne hj] at q ⊢
    exact h.2 j e q
theorem SlotsOk.setNone {i : Nat} {u : Option V} (h : SlotsOk K F s G) : SlotsOk K F (s.set i u) (G.set i none) := by
  refine ⟨by simpa using h.1, fun j e q => ?_⟩
  by_cases hj : i = j
  · subst hj
    by_cases hi : i < G.length
    · rw [List.getElem?_set_self hi] at q
      cases q
    · rw [List.getElem?_eq_none (by simpa using hi)] at q
      cases q
  · rw [List.getElem?_set_ne hj] at q ⊢
    exact h.2 j e q
/-- a new thing of the heap, nothing known of it -/
theorem MemOk.heap (e : Same H H') (h : MemOk K F H M) : MemOk K F H' M := fun a o q => ⟨(h a o q).1, (h a o q).2.heap fun u => e a u⟩
theorem Same.upd_new {p : Addr} {o : HO} (h : H p = none) : Same H (upd H p o) := fun b u q => by rw [upd_ne (ne_of_none q h)]; exact q
theorem R.heap (e : Same H H') (r : R B K F s H G M) : R B K F s H' G M := ⟨r.slots, r.ex.trans e, r.mem.heap e, r.bf, r.bk.trans (Kp.heap e)⟩
theorem R.freeF {p : Addr} (r : R B K F s H G M) (h : H p = none) : F p = none := r.ex.free h
theorem R.freeM {p : Addr} (r : R B K F s H G M) (h : H p = none) : M p = none := by
  cases q : M p with
  | none => rfl
  | some o =>
    obtain ⟨u, hu, _⟩ := (r.mem p o q).2.there
    rw [h] at hu; cases hu
/-- F may know more of the heap: what is no cell of M -/
theorem R.grow (e : Same F F') (e2 : Same F' H) (hm : ∀ a o, M a = some o → F' a = none) (r : R B K F s H G M) : R B K F' s H G M :=
  ⟨r.slots.mono e, e2, fun a o q => ⟨hm a o q, (r.mem a o q).2.mono e⟩, r.bf.trans e, r.bk⟩
/-- a new frozen thing at p -/
theorem R.new {p : Addr} {o : HO} (r : R B K F s H G M) (h : H p = none) : Same F (upd F p o) ∧ R B K (upd F p o) s (upd H p o) G M := by
  have e : Same F (upd F p o) := Same.upd_new (r.freeF h)
  have hp : M p = none := r.freeM h
  refine ⟨e, ?_⟩
  refine R.grow e (fun b u q => ?_) (fun a u q => ?_) (r.heap (Same.upd_new h))
  · by_cases hb : b = p
    · subst hb; rw [upd_same] at q ⊢; exact q
    · rw [upd_ne hb] at q ⊢; exact r.ex b u q
  · rw [upd_ne (mne q hp)]; exact (r.mem a u q).1
/-- a new cell at p -/
theorem R.newCell {p : Addr} {ho : HO} {o : MO} (r : R B K F s H G M) (h : H p = none) (k : MRp K F (upd H p ho) p o) : R B K F s (upd H p ho) G (mupd M p o) := by
  refine ⟨r.slots, r.ex.trans (Same.upd_new h), fun a u q => ?_, r.bf, r.bk.trans fun a u e m => ⟨Same.upd_new h a u e, by rw [mupd_ne (ne_of_none e h)]; exact m⟩⟩
  by_cases ha : a = p
  · subst ha; rw [mupd_same] at q; cases q; exact ⟨r.freeF h, k⟩
  · rw [mupd_ne ha] at q
    exact ⟨(r.mem a u q).1, (r.mem a u q).2.heap fun v e => by rw [upd_ne ha]; exact e⟩
/-- a cell is written -/
theorem R.write {p : Addr} {ho : HO} {o o' : MO} (r : R B K F s H G M) (h : M p = some o) (k : MRp K F (upd H p ho) p o') : R B K F s (upd H p ho) G (mupd M p o') := by
  have fp := (r.mem p o h).1
  refine ⟨r.slots, fun b u q => ?_, fun a u q => ?_, r.bf, r.bk.trans fun a u e m => ⟨by rw [upd_ne (fun z => by rw [z, h] at m; cases m)]; exact e, by rw [mupd_ne (fun z => by rw [z, h] at m; cases m)]; exact m⟩⟩
  · rw [upd_ne (ne_of_none q fp)]; exact r.ex b u q
  by_cases ha : a = p
  · subst ha; rw [mupd_same] at q; cases q; exact ⟨fp, k⟩
  · rw [mupd_ne ha] at q
    exact ⟨(r.mem a u q).1, (r.mem a u q).2.heap fun v e => by rw [upd_ne ha]; exact e⟩
/-- less is known of the cells -/
theorem R.less (r : R B K F s H G M) (h : ∀ a o, M' a = some o → M a = some o) : R B K F s H G M' := ⟨r.slots, r.ex, fun a o q => r.mem a o (h a o q), r.bf, r.bk.trans (Kp.less h)⟩
/-- a list cell is frozen -/
theorem R.freeze {p : Addr} {ds : List D} (r : R B K F s H G M) (h : M p = some (.lst ds)) : ∃ F', Same F F' ∧ R B K F' s H G (mdel M p) ∧ Rp K F' (.ref p) (.lst ds) := by
  obtain ⟨fp, xs, hx, rx⟩ := r.mem p _ h
  have e : Same F (upd F p (.lst xs)) := Same.upd_new fp
  refine ⟨upd F p (.lst xs), e, ?_, .lst upd_same (rx.mono e)⟩
  have r2 : R B K F s H G (mdel M p) := r.less fun a o q => by
    unfold mdel at q
    split at q
    · cases q
    · exact q
  refine R.grow e (fun b u q => ?_) (fun a u q => ?_) r2
  · by_cases hb : b = p
    · subst hb; rw [upd_same] at q; cases q; exact hx
    · rw [upd_ne hb] at q; exact r.ex b u q
  · unfold mdel at q
    split at q
    · cases q
    · rename_i hb
      rw [upd_ne hb]; exact (r.mem a u q).1
end
end FL

namespace FL
open PySem PySem.Spec PyProof.Rows L2

abbrev Sl := List (Option D)
/-! ### the weakest readings -/
section
variable {B : Bs} {X : Cx} {e : Expr}
def WE (X : Cx) (e : Expr) : TE := fun σ H Q => ∀ (pins : List (Addr × Obj)) (s : Shared), Inv X pins σ H s → wpAny (model X.prog X.w) X.A (eval e X.env) (EP X pins σ Q) X.xe s
theorem pe_we : PE X e (WE X e) := ⟨fun pins s _ _ _ I h => h pins s I⟩
theorem WE.of {t : TE} {σ : L2.St} {H : Hp} {Q : VK} (h : PE X e t) (q : t σ H Q) : WE X e σ H Q := fun pins s I => h.run pins s σ H Q I q
def WT (X : Cx) (e : Expr) : TT := fun σ H Q => ∀ (pins : List (Addr × Obj)) (s : Shared), Inv X pins σ H s → wpAny (model X.prog X.w) X.A (isTrue e X.env (eval e X.env)) (TP X pins σ Q) X.xe s
theorem pt_wt : PT X e (WT X e) := ⟨fun pins s _ _ _ I h => h pins s I⟩
theorem WT.of {t : TT} {σ : L2.St} {H : Hp} {Q : Bool → Hp → Prop} (h : PT X e t) (q : t σ H Q) : WT X e σ H Q := fun pins s I => h.run pins s σ H Q I q
def WW (X : Cx) (e : Expr) : TT := fun σ H Q => ∀ (whole : Sem Value) (pins : List (Addr × Obj)) (s : Shared), Inv X pins σ H s → wpAny (model X.prog X.w) X.A (isTrue e X.env whole) (TP X pins σ Q) X.xe s
theorem pw_ww : PW X e (WW X e) := ⟨fun wh pins s _ _ _ I h => h wh pins s I⟩
theorem WW.of {t : TT} {σ : L2.St} {H : Hp} {Q : Bool → Hp → Prop} (h : PW X e t) (q : t σ H Q) : WW X e σ H Q := fun wh pins s I => h.run wh pins s σ H Q I q
def WA (X : Cx) (es : List Expr) : TA := fun σ H Q => ∀ (pos : Pos) (pins : List (Addr × Obj)) (s : Shared), Inv X pins σ H s → wpAny (model X.prog X.w) X.A (spliced (backTo pos (starEach es X.env))) (AP X pins σ Q) X.xe s
theorem pa_wa {es : List Expr} : PA X es (WA X es) := ⟨fun pos pins s _ _ _ I h => h pos pins s I⟩
theorem WA.of {es : List Expr} {t : TA} {σ : L2.St} {H : Hp} {Q : List V → Hp → Prop} (h : PA X es t) (q : t σ H Q) : WA X es σ H Q := fun pos pins s I => h.run pos pins s σ H Q I q
def WO (X : Cx) (f : Value → Value → Sem Value) : R2 := fun x y H Q => ∀ (pins : List (Addr × Obj)) (s : Shared) (σ : L2.St) (v u : Value), Inv X pins σ H s → RelV x v → RelV y u → wpAny (model X.prog X.w) X.A (f v u) (EP X pins σ Q) X.xe s
theorem op_wo {f : Value → Value → Sem Value} : OpR X f (WO X f) := fun pins s σ _ _ _ v u _ I r1 r2 h => h pins s σ v u I r1 r2
theorem WO.of {f : Value → Value → Sem Value} {r : R2} {x y : V} {H : Hp} {Q : VK} (h : OpR X f r) (q : r x y H Q) : WO X f x y H Q := fun pins s σ v u I r1 r2 => h pins s σ H x y v u Q I r1 r2 q
def WU (X : Cx) (f : Value → Sem Value) : V → Hp → VK → Prop := fun x H Q => ∀ (pins : List (Addr × Obj)) (s : Shared) (σ : L2.St) (v : Value), Inv X pins σ H s → RelV x v → wpAny (model X.prog X.w) X.A (f v) (EP X pins σ Q) X.xe s
theorem un_wu {f : Value → Sem Value} : UnR X f (WU X f) := fun pins s σ _ _ v _ I r1 h => h pins s σ v I r1
theorem WU.of {f : Value → Sem Value} {r : V → Hp → VK → Prop} {x : V} {H : Hp} {Q : VK} (h : UnR X f r) (q : r x H Q) : WU X f x H Q := fun pins s σ v I r1 => h pins s σ H x v Q I r1 q
def WC (X : Cx) (f : Value) : List V → Hp → VK → Prop := fun xs H Q => ∀ (pins : List (Addr × Obj)) (s : Shared) (σ : L2.St) (us : List Value), Inv X pins σ H s → Vals xs us → wpAny (model X.prog X.w) X.A (call f us) (EP X pins σ Q) X.xe s
theorem call_wc {f : Value} : CallR X f (WC X f) := fun pins s σ _ _ us _ I r h => h pins s σ us I r
theorem WC.of {f : Value} {r : List V → Hp → VK → Prop} {xs : List V} {H : Hp} {Q : VK} (h : CallR X f r) (q : r xs H Q) : WC X f xs H Q := fun pins s σ us I rr => h pins s σ H xs us Q I rr q
def WI (X : Cx) : R2 := fun x y H Q => ∀ (value slice : Expr) (pins : List (Addr × Obj)) (s : Shared) (σ : L2.St) (v u : Value), Inv X pins σ H s → RelV x v → RelV y u →
  subscripted slice false v u = operate [v, u] (getItem v u) → wpAny (model X.prog X.w) X.A (subscriptTail value slice v u) (EP X pins σ Q) X.xe s
theorem ix_wi : IxR X (WI X) := fun a b pins s σ _ _ _ v u _ I r1 r2 h hs => h a b pins s σ v u I r1 r2 hs
theorem WI.of {r : R2} {x y : V} {H : Hp} {Q : VK} (h : IxR X r) (q : r x y H Q) : WI X x y H Q := fun a b pins s σ v u I r1 r2 hs => h a b pins s σ H x y v u Q I r1 r2 q hs
def WM (X : Cx) (id : String) : V → List V → Hp → VK → Prop := fun x xs H Q => ∀ (pins : List (Addr × Obj)) (s : Shared) (σ : L2.St) (v : Value) (us : List Value), Inv X pins σ H s → RelV x v → Vals xs us →
  wpAny (model X.prog X.w) X.A (call (.builtin id) (v :: us)) (EP X pins σ Q) X.xe s
theorem mt_wm {id : String} : MtR X id (WM X id) := fun pins s σ _ _ _ v us _ I r1 r2 h => h pins s σ v us I r1 r2
theorem WM.of {id : String} {r : V → List V → Hp → VK → Prop} {x : V} {xs : List V} {H : Hp} {Q : VK} (h : MtR X id r) (q : r x xs H Q) : WM X id x xs H Q := fun pins s σ v us I r1 r2 => h pins s σ H x xs v us Q I r1 r2 q
def WS (X : Cx) (st : Stmt) : TS := fun D σ H => ∀ (pins : List (Addr × Obj)) (s : Shared), Inv X pins σ H s → wpAny (model X.prog X.w) X.A (exec st X.env) (SP X pins D) X.xe s
theorem ps_ws {st : Stmt} : PS X st (WS X st) := ⟨fun pins s _ _ _ I h => h pins s I⟩
theorem WS.of {st : Stmt} {t : TS} {σ : L2.St} {H : Hp} {E : Ends} (h : PS X st t) (q : t E σ H) : WS X st E σ H := fun pins s I => h.run pins s σ H E I q
def WSs (X : Cx) (st : List Stmt) : TS := fun D σ H => ∀ (pins : List (Addr × Obj)) (s : Shared), Inv X pins σ H s → wpAny (model X.prog X.w) X.A (execs st X.env) (SP X pins D) X.xe s
theorem pss_wss {st : List Stmt} : PSs X st (WSs X st) := ⟨fun pins s _ _ _ I h => h pins s I⟩
theorem WSs.of {st : List Stmt} {t : TS} {σ : L2.St} {H : Hp} {E : Ends} (h : PSs X st t) (q : t E σ H) : WSs X st E σ H := fun pins s I => h.run pins s σ H E I q
def WG (X : Cx) (tg : Expr) : TG := fun v σ H Q => ∀ (pins : List (Addr × Obj)) (s : Shared) (u : Value), Inv X pins σ H s → RelV v u →
  wpAny (model X.prog X.w) X.A (assign tg X.env u) (fun _ s' => ∃ σ' H', Inv X pins σ' H' s' ∧ Q σ' H') X.xe s
theorem pg_wg {tg : Expr} : PG X tg (WG X tg) := ⟨fun pins s _ _ _ u _ I r h => h pins s u I r⟩
theorem WG.of {tg : Expr} {t : TG} {v : V} {σ : L2.St} {H : Hp} {Q : L2.St → Hp → Prop} (h : PG X tg t) (q : t v σ H Q) : WG X tg v σ H Q := fun pins s u I r => h.run pins s σ H v u Q I r q
end

/-! ### what is handed on -/
def KE (B : Bs) (X : Cx) (F : Hp) (σ : L2.St) (G : Sl) (Q : D → Mem → Prop) (Q' : VK) : Prop := ∀ v H' F' d M', Q d M' → Same F F' → R B X.K F' σ H' G M' → Rp X.K F' v d → Q' v H'
def KT (B : Bs) (X : Cx) (F : Hp) (σ : L2.St) (G : Sl) (Q : Bool → Mem → Prop) (Q' : Bool → Hp → Prop) : Prop := ∀ b H' F' M', Q b M' → Same F F' → R B X.K F' σ H' G M' → Q' b H'
def KA (B : Bs) (X : Cx) (F : Hp) (σ : L2.St) (G : Sl) (Q : List D → Mem → Prop) (Q' : List V → Hp → Prop) : Prop := ∀ vs H' F' ds M', Q ds M' → Same F F' → R B X.K F' σ H' G M' → RpAll X.K F' vs ds → Q' vs H'
def EX (B : Bs) (X : Cx) (e : Expr) (G : Sl) (M : Mem) (Q : D → Mem → Prop) : Prop := ∀ F σ H Q', R B X.K F σ H G M → KE B X F σ G Q Q' → WE X e σ H Q'
def TX (B : Bs) (X : Cx) (e : Expr) (G : Sl) (M : Mem) (Q : Bool → Mem → Prop) : Prop := ∀ F σ H Q', R B X.K F σ H G M → KT B X F σ G Q Q' → WT X e σ H Q'
def TW (B : Bs) (X : Cx) (e : Expr) (G : Sl) (M : Mem) (Q : Bool → Mem → Prop) : Prop := ∀ F σ H Q', R B X.K F σ H G M → KT B X F σ G Q Q' → WW X e σ H Q'
def AX (B : Bs) (X : Cx) (es : List Expr) (G : Sl) (M : Mem) (Q : List D → Mem → Prop) : Prop := ∀ F σ H Q', R B X.K F σ H G M → KA B X F σ G Q Q' → WA X es σ H Q'
def OX (B : Bs) (X : Cx) (f : Value → Value → Sem Value) (x y : D) (G : Sl) (M : Mem) (Q : D → Mem → Prop) : Prop := ∀ F σ H Q' v w, R B X.K F σ H G M → Rp X.K F v x → Rp X.K F w y → KE B X F σ G Q Q' → WO X f v w H Q'
def UX (B : Bs) (X : Cx) (f : Value → Sem Value) (x : D) (G : Sl) (M : Mem) (Q : D → Mem → Prop) : Prop := ∀ F σ H Q' v, R B X.K F σ H G M → Rp X.K F v x → KE B X F σ G Q Q' → WU X f v H Q'
def IX (B : Bs) (X : Cx) (x y : D) (G : Sl) (M : Mem) (Q : D → Mem → Prop) : Prop := ∀ F σ H Q' v w, R B X.K F σ H G M → Rp X.K F v x → Rp X.K F w y → KE B X F σ G Q Q' → WI X v w H Q'
def BX (B : Bs) (X : Cx) (f : Value) (xs : List D) (G : Sl) (M : Mem) (Q : D → Mem → Prop) : Prop := ∀ F σ H Q' vs, R B X.K F σ H G M → RpAll X.K F vs xs → KE B X F σ G Q Q' → WC X f vs H Q'
def MX (B : Bs) (X : Cx) (id : String) (x : D) (xs : List D) (G : Sl) (M : Mem) (Q : D → Mem → Prop) : Prop := ∀ F σ H Q' v vs, R B X.K F σ H G M → Rp X.K F v x → RpAll X.K F vs xs → KE B X F σ G Q Q' → WM X id v vs H Q'

section
variable {B : Bs} {X : Cx} {a b c e : Expr} {es : List Expr} {G : Sl} {M : Mem} {Q Q2 : D → Mem → Prop} {pos p pos' : Pos} {d : D} {F F1 : Hp} {σ : L2.St}
theorem KE.mono {Q' : VK} (e : Same F F1) (k : KE B X F σ G Q Q') : KE B X F1 σ G Q Q' := fun v H' F' d M' q s r rp => k v H' F' d M' q (e.trans s) r rp
theorem KT.mono {Q : Bool → Mem → Prop} {Q' : Bool → Hp → Prop} (e : Same F F1) (k : KT B X F σ G Q Q') : KT B X F1 σ G Q Q' := fun b H' F' M' q s r => k b H' F' M' q (e.trans s) r
theorem KA.mono {Q : List D → Mem → Prop} {Q' : List V → Hp → Prop} (e : Same F F1) (k : KA B X F σ G Q Q') : KA B X F1 σ G Q Q' := fun vs H' F' ds M' q s r rp => k vs H' F' ds M' q (e.trans s) r rp
theorem EX.imp (h : EX B X e G M Q) (k : ∀ d M', Q d M' → Q2 d M') : EX B X e G M Q2 := fun F σ H Q' r kk => h F σ H Q' r fun v H' F' d M' q => kk v H' F' d M' (k d M' q)
theorem TX.imp {Q Q2 : Bool → Mem → Prop} (h : TX B X e G M Q) (k : ∀ b M', Q b M' → Q2 b M') : TX B X e G M Q2 := fun F σ H Q' r kk => h F σ H Q' r fun b H' F' M' q => kk b H' F' M' (k b M' q)
/-- done at once, the state as it is -/
theorem KE.at {Q' : VK} {H : Hp} {v : V} (k : KE B X F σ G Q Q') (r : R B X.K F σ H G M) (q : Q d M) (rp : Rp X.K F v d) : Q' v H := k v H F d M q (Same.refl F) r rp
/-- .. with a new frozen thing -/
theorem KE.new {Q' : VK} {H : Hp} {p : Addr} {o : HO} (k : KE B X F σ G Q Q') (r : R B X.K F σ H G M) (hp : H p = none) (q : Q d M) (rp : Rp X.K (upd F p o) (.ref p) d) : Q' (.ref p) (upd H p o) :=
  k (.ref p) _ (upd F p o) d M q (r.new hp).1 (r.new hp).2 rp
theorem KE.cell {Q' : VK} {H : Hp} {p : Addr} {ho : HO} {o : MO} (k : KE B X F σ G Q Q') (r : R B X.K F σ H G M) (hp : H p = none) (q : Q (.ref p) (mupd M p o)) (m : MRp X.K F (upd H p ho) p o) : Q' (.ref p) (upd H p ho) :=
  k (.ref p) _ F (.ref p) _ q (Same.refl F) (r.newCell hp m) (.ref p)

/-! ### names, constants -/
/-- the i-th slot's name -/
structure At (X : Cx) (i : Nat) (x : Str) : Prop where
  n : X.N[i]? = some x
  v : Vis X.env.scope x
  d : (x == ("__debug__" : Str)) = false
  c : (x == ("__classdict__" : Str)) = false
theorem ex_var {i : Nat} {x : Str} (h : At X i x) (g : G[i]? = some (some d)) (q : Q d M) : EX B X (.Name x pos) G M Q := fun F σ H Q' r k => by
  obtain ⟨v, hv, rp⟩ := r.slots.2 i d g
  exact WE.of (pe_var h.n h.v h.d h.c) ⟨v, hv, k.at r q rp⟩
theorem ex_int {i : Int} {j} (q : Q (.int i) M) : EX B X (.Constant (.int i) j pos) G M Q := fun F σ H Q' r k => WE.of pe_int (k.at r q (.int i))
theorem ex_bl {b : Bool} {j} (q : Q (.bl b) M) : EX B X (.Constant (.bool b) j pos) G M Q := fun F σ H Q' r k => WE.of pe_bl (k.at r q (.bl b))
theorem ex_non {j} (q : Q .non M) : EX B X (.Constant .none j pos) G M Q := fun F σ H Q' r k => WE.of pe_non (k.at r q .non)
theorem ex_str {x : Str} {j} (q : Q (.str x) M) : EX B X (.Constant (.str x) j pos) G M Q := fun F σ H Q' r k => WE.of pe_str (k.at r q (.str x))
/-- a name of the module -/
structure Gb (X : Cx) (x : Str) (d : D) : Prop where
  g : Gl X x
  m : ∃ u v, X.mg x = some u ∧ RelV v u ∧ ∀ F, Rp X.K F v d
  d : (x == ("__debug__" : Str)) = false
theorem ex_glob {x : Str} (h : Gb X x d) (q : Q d M) : EX B X (.Name x pos) G M Q := fun F σ H Q' r k => by
  obtain ⟨u, v, hm, rv, rp⟩ := h.m
  exact WE.of (pe_glob h.g hm rv h.d) (k.at r q (rp F))

/-! ### operators -/
theorem ex_bin {op : Operator} (h : EX B X a G M fun x M1 => EX B X b G M1 fun y M2 => OX B X (binaryOp op) x y G M2 Q) : EX B X (.BinOp a op b pos) G M Q := fun F σ H Q' r k =>
  WE.of (pe_op op_wo pe_we pe_we) (h F σ H _ r fun v1 H1 F1 d1 M1 q1 s1 r1 p1 => q1 F1 σ H1 _ r1 fun v2 H2 F2 d2 M2 q2 s2 r2 p2 => q2 F2 σ H2 Q' v1 v2 r2 (p1.mono s2) p2 (k.mono (s1.trans s2)))
theorem ex_un {op : UnaryOp} (h : EX B X a G M fun x M1 => UX B X (unaryOp op) x G M1 Q) : EX B X (.UnaryOp op a pos) G M Q := fun F σ H Q' r k =>
  WE.of (pe_un un_wu pe_we) (h F σ H _ r fun v1 H1 F1 d1 M1 q1 s1 r1 p1 => q1 F1 σ H1 Q' v1 r1 p1 (k.mono s1))
theorem ex_cmp {op : CmpOp} (hm : behindInMarks op b = false) (h : EX B X a G M fun x M1 => EX B X b G M1 fun y M2 => OX B X (compareOp op) x y G M2 Q) : EX B X (.Compare a [op] [b] pos) G M Q := fun F σ H Q' r k =>
  WE.of (pe_cmpR op_wo pe_we pe_we hm) (h F σ H _ r fun v1 H1 F1 d1 M1 q1 s1 r1 p1 => q1 F1 σ H1 _ r1 fun v2 H2 F2 d2 M2 q2 s2 r2 p2 => q2 F2 σ H2 Q' v1 v2 r2 (p1.mono s2) p2 (k.mono (s1.trans s2)))
/-- what a value must be to be a test's answer -/
def AsB (Q : Bool → Mem → Prop) : D → Mem → Prop
  | .bl b, M => Q b M
  | _, _ => False
theorem KT.asB {Q : Bool → Mem → Prop} {Q' : Bool → Hp → Prop} (k : KT B X F σ G Q Q') : KE B X F σ G (AsB Q) (fun x H' => ∃ b, x = .bl b ∧ Q' b H') := fun v H' F' d M' q s r rp => by
  cases d with
  | bl b => cases rp; exact ⟨b, rfl, k b H' F' M' q s r⟩
  | _ => exact False.elim q
theorem tx_cmp {Q : Bool → Mem → Prop} {op : CmpOp} (hm : behindInMarks op b = false) (h : EX B X a G M fun x M1 => EX B X b G M1 fun y M2 => OX B X (compareOp op) x y G M2 (AsB Q)) : TX B X (.Compare a [op] [b] pos) G M Q := fun F σ H Q' r k =>
  WT.of (pt_cmpR op_wo pe_we pe_we hm) (h F σ H _ r fun v1 H1 F1 d1 M1 q1 s1 r1 p1 => q1 F1 σ H1 _ r1 fun v2 H2 F2 d2 M2 q2 s2 r2 p2 => q2 F2 σ H2 _ v1 v2 r2 (p1.mono s2) p2 (k.mono (s1.trans s2)).asB)
theorem tx_val {Q : Bool → Mem → Prop} (he : ∀ whole, isTrue e X.env whole = (do let v ← whole; standAt e.pos; holding [v] (truthy v))) (h : EX B X e G M (AsB Q)) : TX B X e G M Q := fun F σ H Q' r k =>
  WT.of (pt_val pe_we he) (h F σ H _ r k.asB)
theorem chain_k {Q' : VK} {op op' : CmpOp} {c : Expr} {H : Hp} {v1 v2 : V} {d1 d2 : D} (k : KE B X F σ G Q Q') (r : R B X.K F σ H G M) (p1 : Rp X.K F v1 d1) (p2 : Rp X.K F v2 d2)
    (q : OX B X (compareOp op) d1 d2 G M (AsB fun b M3 => if b = true then EX B X c G M3 fun w M4 => OX B X (compareOp op') d2 w G M4 Q else Q (.bl false) M3)) :
    WO X (compareOp op) v1 v2 H (fun z H3 => ∃ k, z = .bl k ∧ (if k = true then WE X c σ H3 (fun w' H4 => WO X (compareOp op') v2 w' H4 Q') else Q' (.bl false) H3)) := by
  refine q F σ H _ v1 v2 r p1 p2 fun z H3 F3 d3 M3 q3 s3 r3 p3 => ?_
  cases d3 with
  | bl b =>
    cases p3
    refine ⟨b, rfl, ?_⟩
    cases b with
    | true =>
      rw [if_pos rfl]
      have q3' : EX B X c G M3 fun w M4 => OX B X (compareOp op') d2 w G M4 Q := q3
      exact q3' F3 σ H3 _ r3 fun v4 H4 F4 d4 M4 q4 s4 r4 p4 => q4 F4 σ H4 Q' v2 v4 r4 (p2.mono (s3.trans s4)) p4 (k.mono (s3.trans s4))
    | false =>
      rw [if_neg Bool.false_ne_true]
      have q3' : Q (.bl false) M3 := q3
      exact (k.mono s3).at r3 q3' (.bl false)
  | _ => exact False.elim q3
theorem ex_chain {op op' : CmpOp} (hm : lastMarks [op, op'] [b, c] = false)
    (h : EX B X a G M fun x M1 => EX B X b G M1 fun y M2 => OX B X (compareOp op) x y G M2 (AsB fun t M3 => if t = true then EX B X c G M3 fun w M4 => OX B X (compareOp op') y w G M4 Q else Q (.bl false) M3)) :
    EX B X (.Compare a [op, op'] [b, c] pos) G M Q := fun F σ H Q' r k =>
  WE.of (pe_chain op_wo op_wo pe_we pe_we pe_we hm) (h F σ H _ r fun v1 H1 F1 d1 M1 q1 s1 r1 p1 => q1 F1 σ H1 _ r1 fun v2 H2 F2 d2 M2 q2 s2 r2 p2 => chain_k (k.mono (s1.trans s2)) r2 (p1.mono s2) p2 q2)
theorem tx_chain {Q : Bool → Mem → Prop} {op op' : CmpOp} (hm : lastMarks [op, op'] [b, c] = false)
    (h : EX B X a G M fun x M1 => EX B X b G M1 fun y M2 => OX B X (compareOp op) x y G M2 (AsB fun t M3 => if t = true then EX B X c G M3 fun w M4 => OX B X (compareOp op') y w G M4 (AsB Q) else Q false M3)) :
    TX B X (.Compare a [op, op'] [b, c] pos) G M Q := fun F σ H Q' r k =>
  WT.of (pt_chain op_wo op_wo pe_we pe_we pe_we hm) (h F σ H _ r fun v1 H1 F1 d1 M1 q1 s1 r1 p1 => q1 F1 σ H1 _ r1 fun v2 H2 F2 d2 M2 q2 s2 r2 p2 => chain_k (k.mono (s1.trans s2)).asB r2 (p1.mono s2) p2 q2)

/-! ### and, or, not -/
theorem ite_mono {c A B A' B' : Prop} [Decidable c] (h : if c then A else B) (h1 : A → A') (h2 : B → B') : if c then A' else B' := by
  by_cases e : c
  · rw [if_pos e] at h ⊢; exact h1 h
  · rw [if_neg e] at h ⊢; exact h2 h
theorem TW.tx {Q : Bool → Mem → Prop} (h : TW B X e G M Q) : TX B X e G M Q := fun F σ H Q' r k => WT.of pw_ww.pt (h F σ H Q' r k)
theorem tw_and1 {Q : Bool → Mem → Prop} (h : TX B X a G M Q) : TW B X (.BoolOp .And [a] pos) G M Q := fun F σ H Q' r k => WW.of (pw_and1 pt_wt) (h F σ H Q' r k)
theorem tw_or1 {Q : Bool → Mem → Prop} (h : TX B X a G M Q) : TW B X (.BoolOp .Or [a] pos) G M Q := fun F σ H Q' r k => WW.of (pw_or1 pt_wt) (h F σ H Q' r k)
theorem tw_and {Q : Bool → Mem → Prop} {rest : List Expr} (h : TX B X a G M fun c M1 => if c = true then TW B X (.BoolOp .And (b :: rest) pos) G M1 Q else Q false M1) : TW B X (.BoolOp .And (a :: b :: rest) pos) G M Q := fun F σ H Q' r k =>
  WW.of (pw_and pt_wt pw_ww) (h F σ H _ r fun c H1 F1 M1 q1 s1 r1 => ite_mono q1 (fun q => q F1 σ H1 Q' r1 (k.mono s1)) fun q => k false H1 F1 M1 q s1 r1)
theorem tw_or {Q : Bool → Mem → Prop} {rest : List Expr} (h : TX B X a G M fun c M1 => if c = true then Q true M1 else TW B X (.BoolOp .Or (b :: rest) pos) G M1 Q) : TW B X (.BoolOp .Or (a :: b :: rest) pos) G M Q := fun F σ H Q' r k =>
  WW.of (pw_or pt_wt pw_ww) (h F σ H _ r fun c H1 F1 M1 q1 s1 r1 => ite_mono q1 (fun q => k true H1 F1 M1 q s1 r1) fun q => q F1 σ H1 Q' r1 (k.mono s1))
theorem tx_not {Q : Bool → Mem → Prop} (h : TX B X a G M fun c M1 => Q (!c) M1) : TX B X (.UnaryOp .Not a pos) G M Q := fun F σ H Q' r k =>
  WT.of (pt_not pt_wt) (h F σ H _ r fun c H1 F1 M1 q1 s1 r1 => k (!c) H1 F1 M1 q1 s1 r1)
theorem asB_k {Q : Bool → Mem → Prop} {Q' : VK} (k : ∀ b H' F' M', Q b M' → Same F F' → R B X.K F' σ H' G M' → Q' (.bl b) H') : KE B X F σ G (AsB Q) Q' := fun v H' F' d M' q s r rp => by
  cases d with
  | bl b => cases rp; exact k b H' F' M' q s r
  | _ => exact False.elim q
theorem ex_one {op} (h : EX B X a G M Q) : EX B X (.BoolOp op [a] pos) G M Q := fun F σ H Q' r k => WE.of (pe_one pe_we) (h F σ H Q' r k)
theorem ex_and {rest : List Expr} (h : EX B X a G M (AsB fun c M1 => if c = true then EX B X (.BoolOp .And (b :: rest) pos) G M1 Q else Q (.bl false) M1)) : EX B X (.BoolOp .And (a :: b :: rest) pos) G M Q := fun F σ H Q' r k =>
  WE.of (pe_and pe_we pe_we) (h F σ H _ r (asB_k fun c H1 F1 M1 q1 s1 r1 => ⟨c, rfl, ite_mono q1 (fun q => q F1 σ H1 Q' r1 (k.mono s1)) fun q => (k.mono s1).at r1 q (.bl false)⟩))
theorem ex_or {rest : List Expr} (h : EX B X a G M (AsB fun c M1 => if c = true then Q (.bl true) M1 else EX B X (.BoolOp .Or (b :: rest) pos) G M1 Q)) : EX B X (.BoolOp .Or (a :: b :: rest) pos) G M Q := fun F σ H Q' r k =>
  WE.of (pe_or pe_we pe_we) (h F σ H _ r (asB_k fun c H1 F1 M1 q1 s1 r1 => ⟨c, rfl, ite_mono q1 (fun q => (k.mono s1).at r1 q (.bl true)) fun q => q F1 σ H1 Q' r1 (k.mono s1)⟩))
theorem ex_not (h : EX B X a G M (AsB fun c M1 => Q (.bl (!c)) M1)) : EX B X (.UnaryOp .Not a pos) G M Q := fun F σ H Q' r k =>
  WE.of (pe_not pe_we) (h F σ H _ r (asB_k fun c H1 F1 M1 q1 s1 r1 => ⟨c, rfl, (k.mono s1).at r1 q1 (.bl (!c))⟩))
theorem ex_if (h : TX B X c G M fun t M1 => if t = true then EX B X a G M1 Q else EX B X b G M1 Q) : EX B X (.IfExp c a b pos) G M Q := fun F σ H Q' r k =>
  WE.of (pe_ifExp pt_wt pe_we pe_we) (h F σ H _ r fun t H1 F1 M1 q1 s1 r1 => ite_mono q1 (fun q => q F1 σ H1 Q' r1 (k.mono s1)) fun q => q F1 σ H1 Q' r1 (k.mono s1))

/-! ### arguments, tuples, lists, subscripts -/
theorem ax_nil {Q : List D → Mem → Prop} (q : Q [] M) : AX B X [] G M Q := fun F σ H Q' r k => WA.of pa_nil (k [] H F [] M q (Same.refl F) r .nil)
theorem ax_cons {Q : List D → Mem → Prop} (hs : starEach (e :: es) X.env = (false, eval e X.env) :: starEach es X.env) (h : EX B X e G M fun x M1 => AX B X es G M1 fun xs M2 => Q (x :: xs) M2) : AX B X (e :: es) G M Q := fun F σ H Q' r k =>
  WA.of (pa_cons pe_we pa_wa hs) (h F σ H _ r fun v1 H1 F1 d1 M1 q1 s1 r1 p1 => q1 F1 σ H1 _ r1 fun vs H2 F2 ds M2 q2 s2 r2 p2 => k _ H2 F2 _ M2 q2 (s1.trans s2) r2 (.cons (p1.mono s2) p2))
theorem sq_upd {K : PySem.W.Frag} {F : Hp} {p : Addr} {xs : List V} : SqT K (upd F p (.tup xs)) p xs := .inl (.inl upd_same)
theorem sl_upd {K : PySem.W.Frag} {F : Hp} {p : Addr} {xs : List V} : SqL K (upd F p (.lst xs)) p xs := .inl (.inl upd_same)
theorem ex_tup {x1} (h : AX B X es G M fun xs M1 => xs.length ≤ sizeLine ∧ Q (.tup xs) M1) : EX B X (.Tuple es x1 pos) G M Q := fun F σ H Q' r k =>
  WE.of (pe_tup pa_wa) (h F σ H _ r fun vs H1 F1 ds M1 q1 s1 r1 p1 => ⟨by rw [p1.length]; exact q1.1, fun p hp => (k.mono s1).new r1 hp q1.2 (.tup sq_upd (p1.mono (r1.new hp).1))⟩)
theorem ex_lst (h : AX B X es G M fun xs M1 => xs.length ≤ sizeLine ∧ Q (.lst xs) M1) : EX B X (.List es pos) G M Q := fun F σ H Q' r k =>
  WE.of (pe_lst pa_wa) (h F σ H _ r fun vs H1 F1 ds M1 q1 s1 r1 p1 => ⟨by rw [p1.length]; exact q1.1, fun p hp => (k.mono s1).new r1 hp q1.2 (.lst upd_same (p1.mono (r1.new hp).1))⟩)
/-- a list that will be changed: a cell -/
theorem ex_lstM (h : AX B X es G M fun xs M1 => xs.length ≤ sizeLine ∧ ∀ p, M1 p = none → Q (.ref p) (mupd M1 p (.lst xs))) : EX B X (.List es pos) G M Q := fun F σ H Q' r k =>
  WE.of (pe_lst pa_wa) (h F σ H _ r fun vs H1 F1 ds M1 q1 s1 r1 p1 => ⟨by rw [p1.length]; exact q1.1, fun p hp => (k.mono s1).cell r1 hp (q1.2 p (r1.freeM hp)) ⟨vs, upd_same, p1⟩⟩)
theorem ex_sub (hs : PlainIx b) (h : EX B X a G M fun x M1 => EX B X b G M1 fun y M2 => IX B X x y G M2 Q) : EX B X (.Subscript a b pos) G M Q := fun F σ H Q' r k =>
  WE.of (pe_ix ix_wi pe_we pe_we hs) (h F σ H _ r fun v1 H1 F1 d1 M1 q1 s1 r1 p1 => q1 F1 σ H1 _ r1 fun v2 H2 F2 d2 M2 q2 s2 r2 p2 => q2 F2 σ H2 Q' v1 v2 r2 (p1.mono s2) p2 (k.mono (s1.trans s2)))
end

/-! ### by values -/
section
variable {B : Bs} {X : Cx} {G : Sl} {M : Mem} {Q : D → Mem → Prop} {i j : Int} {x y : Str}
theorem atI_rp {K : PySem.W.Frag} {F : Hp} {vs : List V} {ds : List D} {i : Int} {d : D} (r : RpAll K F vs ds) (h : atI ds i = some d) : ∃ v, atI vs i = some v ∧ Rp K F v d := by
  unfold atI at h ⊢
  rw [r.length]
  cases e : ixN ds.length i with
  | none => rw [e] at h; cases h
  | some k =>
    rw [e] at h
    exact r.get (i := k) h
theorem ix_t {ds : List D} {d : D} (h : atI ds i = some d) (q : Q d M) : IX B X (.tup ds) (.int i) G M Q := fun F σ H Q' v w r p1 p2 k => by
  cases p2
  cases p1 with
  | @tup a xs _ hs rs =>
    obtain ⟨u, hu, ru⟩ := atI_rp rs h
    exact WI.of ix_tup ⟨a, xs, i, u, rfl, rfl, sq_same r.ex hs, hu, k.at r q ru⟩
theorem ix_l {ds : List D} {d : D} (h : atI ds i = some d) (q : Q d M) : IX B X (.lst ds) (.int i) G M Q := fun F σ H Q' v w r p1 p2 k => by
  cases p2
  cases p1 with
  | @lst a xs _ hs rs =>
    obtain ⟨u, hu, ru⟩ := atI_rp rs h
    exact WI.of ix_list ⟨a, xs, i, u, rfl, rfl, SqL.of (r.ex _ _ hs), hu, k.at r q ru⟩
theorem ix_f {ds : List D} {d : D} (h : atI ds i = some d) (q : Q d M) : IX B X (.fzl ds) (.int i) G M Q := fun F σ H Q' v w r p1 p2 k => by
  cases p2
  cases p1 with
  | @fzl a xs _ hs rs =>
    obtain ⟨u, hu, ru⟩ := atI_rp rs h
    exact WI.of ix_list ⟨a, xs, i, u, rfl, rfl, r.ex.seq hs, hu, k.at r q ru⟩
/-- a cell's item -/
theorem ix_c {a : Addr} {ds : List D} {d : D} (hm : M a = some (.lst ds)) (h : atI ds i = some d) (q : Q d M) : IX B X (.ref a) (.int i) G M Q := fun F σ H Q' v w r p1 p2 k => by
  cases p2; cases p1
  obtain ⟨_, xs, hx, rs⟩ := r.mem a _ hm
  obtain ⟨u, hu, ru⟩ := atI_rp rs h
  exact WI.of ix_list ⟨a, xs, i, u, rfl, rfl, .inl (.inl hx), hu, k.at r q ru⟩
theorem ix_s {c : Nat} (hl : x.length ≤ sizeLine) (h : atI x.cps.toList i = some c) (q : Q (.str ⟨#[c]⟩) M) : IX B X (.str x) (.int i) G M Q := fun F σ H Q' v w r p1 p2 k => by
  cases p2; cases p1
  exact WI.of ix_str ⟨x, i, c, rfl, rfl, hl, h, k.at r q (.str _)⟩
theorem ox_add (q : Q (.int (i + j)) M) : OX B X (binaryOp .Add) (.int i) (.int j) G M Q := fun F σ H Q' v w r p1 p2 k => by
  cases p1; cases p2; exact WO.of op_add ⟨i, j, rfl, rfl, k.at r q (.int _)⟩
theorem ox_sub (q : Q (.int (i - j)) M) : OX B X (binaryOp .Sub) (.int i) (.int j) G M Q := fun F σ H Q' v w r p1 p2 k => by
  cases p1; cases p2; exact WO.of op_sub ⟨i, j, rfl, rfl, k.at r q (.int _)⟩
theorem ox_mul (h : CMul i j) (q : Q (.int (i * j)) M) : OX B X (binaryOp .Mult) (.int i) (.int j) G M Q := fun F σ H Q' v w r p1 p2 k => by
  cases p1; cases p2; exact WO.of op_mul ⟨i, j, rfl, rfl, h, k.at r q (.int _)⟩
theorem ox_fdiv (h : CDiv i j) (q : Q (.int (i / j)) M) : OX B X (binaryOp .FloorDiv) (.int i) (.int j) G M Q := fun F σ H Q' v w r p1 p2 k => by
  cases p1; cases p2; exact WO.of op_fdiv ⟨i, j, rfl, rfl, h, k.at r q (.int _)⟩
theorem ox_mod (h : 0 < j) (q : Q (.int (i % j)) M) : OX B X (binaryOp .Mod) (.int i) (.int j) G M Q := fun F σ H Q' v w r p1 p2 k => by
  cases p1; cases p2; exact WO.of op_mod ⟨i, j, rfl, rfl, h, k.at r q (.int _)⟩
theorem ox_addS (h : x.length + y.length ≤ sizeLine) (q : Q (.str (x ++ y)) M) : OX B X (binaryOp .Add) (.str x) (.str y) G M Q := fun F σ H Q' v w r p1 p2 k => by
  cases p1; cases p2; exact WO.of op_add_str ⟨x, y, rfl, rfl, h, k.at r q (.str _)⟩
theorem ox_lt (q : Q (.bl (decide (i < j))) M) : OX B X (compareOp .Lt) (.int i) (.int j) G M Q := fun F σ H Q' v w r p1 p2 k => by
  cases p1; cases p2; exact WO.of op_lt ⟨i, j, rfl, rfl, k.at r q (.bl _)⟩
theorem ox_le (q : Q (.bl (decide (i ≤ j))) M) : OX B X (compareOp .LtE) (.int i) (.int j) G M Q := fun F σ H Q' v w r p1 p2 k => by
  cases p1; cases p2; exact WO.of op_le ⟨i, j, rfl, rfl, k.at r q (.bl _)⟩
theorem ox_gt (q : Q (.bl (decide (j < i))) M) : OX B X (compareOp .Gt) (.int i) (.int j) G M Q := fun F σ H Q' v w r p1 p2 k => by
  cases p1; cases p2; exact WO.of op_gt ⟨i, j, rfl, rfl, k.at r q (.bl _)⟩
theorem ox_ge (q : Q (.bl (decide (j ≤ i))) M) : OX B X (compareOp .GtE) (.int i) (.int j) G M Q := fun F σ H Q' v w r p1 p2 k => by
  cases p1; cases p2; exact WO.of op_ge ⟨i, j, rfl, rfl, k.at r q (.bl _)⟩
theorem dec_of {p q : Prop} [Decidable p] [Decidable q] (h : p ↔ q) : decide p = decide q := by
  by_cases hp : p
  · rw [decide_eq_true hp, decide_eq_true (h.mp hp)]
  · rw [decide_eq_false hp, decide_eq_false fun z => hp (h.mpr z)]
theorem ox_eqI (q : Q (.bl (decide (i = j))) M) : OX B X (compareOp .Eq) (.int i) (.int j) G M Q := fun F σ H Q' v w r p1 p2 k => by
  cases p1; cases p2; exact WO.of op_eq ⟨rfl, by rw [dec_of (⟨fun e => V.int.inj e, fun e => congrArg V.int e⟩ : V.int i = V.int j ↔ i = j)]; exact k.at r q (.bl _)⟩
theorem ox_neI (q : Q (.bl (!decide (i = j))) M) : OX B X (compareOp .NotEq) (.int i) (.int j) G M Q := fun F σ H Q' v w r p1 p2 k => by
  cases p1; cases p2; exact WO.of op_ne ⟨rfl, by rw [dec_of (⟨fun e => V.int.inj e, fun e => congrArg V.int e⟩ : V.int i = V.int j ↔ i = j)]; exact k.at r q (.bl _)⟩
theorem ox_eqS (q : Q (.bl (decide (x = y))) M) : OX B X (compareOp .Eq) (.str x) (.str y) G M Q := fun F σ H Q' v w r p1 p2 k => by
  cases p1; cases p2; exact WO.of op_eq ⟨rfl, by rw [dec_of (⟨fun e => V.str.inj e, fun e => congrArg V.str e⟩ : V.str x = V.str y ↔ x = y)]; exact k.at r q (.bl _)⟩
theorem ox_neS (q : Q (.bl (!decide (x = y))) M) : OX B X (compareOp .NotEq) (.str x) (.str y) G M Q := fun F σ H Q' v w r p1 p2 k => by
  cases p1; cases p2; exact WO.of op_ne ⟨rfl, by rw [dec_of (⟨fun e => V.str.inj e, fun e => congrArg V.str e⟩ : V.str x = V.str y ↔ x = y)]; exact k.at r q (.bl _)⟩
theorem ox_eqB {x y : Bool} (q : Q (.bl (decide (x = y))) M) : OX B X (compareOp .Eq) (.bl x) (.bl y) G M Q := fun F σ H Q' v w r p1 p2 k => by
  cases p1; cases p2; exact WO.of op_eq ⟨rfl, by rw [dec_of (⟨fun e => V.bl.inj e, fun e => congrArg V.bl e⟩ : V.bl x = V.bl y ↔ x = y)]; exact k.at r q (.bl _)⟩
theorem ox_neB {x y : Bool} (q : Q (.bl (!decide (x = y))) M) : OX B X (compareOp .NotEq) (.bl x) (.bl y) G M Q := fun F σ H Q' v w r p1 p2 k => by
  cases p1; cases p2; exact WO.of op_ne ⟨rfl, by rw [dec_of (⟨fun e => V.bl.inj e, fun e => congrArg V.bl e⟩ : V.bl x = V.bl y ↔ x = y)]; exact k.at r q (.bl _)⟩
/-- is None -/
def D.isN : D → Bool
  | .non => true
  | _ => false
theorem Rp.isN {K : PySem.W.Frag} {F : Hp} {v : V} {d : D} (r : Rp K F v d) : decide (v = .non) = d.isN := by
  cases r <;> first | rfl | exact decide_eq_false (fun e => nomatch e)
theorem ox_is {d : D} (q : Q (.bl d.isN) M) : OX B X (compareOp .Is) d .non G M Q := fun F σ H Q' v w r p1 p2 k => by
  cases p2; exact WO.of op_isN ⟨rfl, by rw [p1.isN]; exact k.at r q (.bl _)⟩
theorem ox_isnot {d : D} (q : Q (.bl (!d.isN)) M) : OX B X (compareOp .IsNot) d .non G M Q := fun F σ H Q' v w r p1 p2 k => by
  cases p2; exact WO.of op_notN ⟨rfl, by rw [p1.isN]; exact k.at r q (.bl _)⟩
end
end FL

namespace FL
open PySem PySem.Spec PyProof.Rows L2

structure En where
  nx : Sl → Mem → Prop
  rt : D → Mem → Prop
  bk : Sl → Mem → Prop := fun _ _ => False
  ct : Sl → Mem → Prop := fun _ _ => False
/-- then n -/
abbrev En.sq (E : En) (n : Sl → Mem → Prop) : En := ⟨n, E.rt, E.bk, E.ct⟩
/-- a loop's turn, then n -/
abbrev En.lp (E : En) (n : Sl → Mem → Prop) : En := ⟨n, E.rt, E.nx, n⟩
/-- a def's own ends -/
abbrev En.df (Q : D → Mem → Prop) : En := ⟨fun _ M' => Q .non M', Q, fun _ _ => False, fun _ _ => False⟩
def KN (B : Bs) (X : Cx) (F : Hp) (n : Sl → Mem → Prop) (n' : L2.St → Hp → Prop) : Prop := ∀ σ' H' F' G' M', n G' M' → Same F F' → R B X.K F' σ' H' G' M' → n' σ' H'
def KR (B : Bs) (X : Cx) (F : Hp) (q : D → Mem → Prop) (q' : VK) : Prop := ∀ v H' F' d M', q d M' → Same F F' → (∃ σ' G', R B X.K F' σ' H' G' M') → Rp X.K F' v d → q' v H'
structure KS (B : Bs) (X : Cx) (F : Hp) (E : En) (D' : Ends) : Prop where
  nx : KN B X F E.nx D'.nx
  rt : KR B X F E.rt D'.rt
  bk : KN B X F E.bk D'.bk
  ct : KN B X F E.ct D'.ct
def SX (B : Bs) (X : Cx) (st : Stmt) (E : En) (G : Sl) (M : Mem) : Prop := ∀ F σ H D', R B X.K F σ H G M → KS B X F E D' → WS X st D' σ H
def SXs (B : Bs) (X : Cx) (st : List Stmt) (E : En) (G : Sl) (M : Mem) : Prop := ∀ F σ H D', R B X.K F σ H G M → KS B X F E D' → WSs X st D' σ H
def GX (B : Bs) (X : Cx) (tg : Expr) (d : D) (G : Sl) (M : Mem) (Q : Sl → Mem → Prop) : Prop := ∀ F σ H Q' v, R B X.K F σ H G M → Rp X.K F v d → KN B X F Q Q' → WG X tg v σ H Q'
def WGs (X : Cx) (ts : List Expr) : TGs := fun vs σ H Q => ∀ (pins : List (Addr × Obj)) (s : Shared) (us : List Value), Inv X pins σ H s → Vals vs us →
  wpAny (model X.prog X.w) X.A (assignInOrder ((assignEach ts X.env).map (·.2)) us) (fun _ s' => ∃ σ' H', Inv X pins σ' H' s' ∧ Q σ' H') X.xe s
theorem pgs_wgs {X : Cx} {ts : List Expr} : PGs X ts (WGs X ts) := ⟨fun pins s _ _ _ us _ I r h => h pins s us I r⟩
theorem WGs.of {X : Cx} {ts : List Expr} {t : TGs} {vs : List V} {σ : L2.St} {H : Hp} {Q : L2.St → Hp → Prop} (h : PGs X ts t) (q : t vs σ H Q) : WGs X ts vs σ H Q := fun pins s us I r => h.run pins s σ H vs us Q I r q
def GXs (B : Bs) (X : Cx) (ts : List Expr) (ds : List D) (G : Sl) (M : Mem) (Q : Sl → Mem → Prop) : Prop := ∀ F σ H Q' vs, R B X.K F σ H G M → RpAll X.K F vs ds → KN B X F Q Q' → WGs X ts vs σ H Q'

section
variable {B : Bs} {X : Cx} {a b c e o tg : Expr} {es : List Expr} {G G' : Sl} {M M' : Mem} {Q Q2 : D → Mem → Prop} {E : En} {pos p pos' : Pos} {d : D} {F F1 : Hp} {σ : L2.St} {st : Stmt} {sts rest : List Stmt}
theorem KN.mono {n : Sl → Mem → Prop} {n' : L2.St → Hp → Prop} (e : Same F F1) (k : KN B X F n n') : KN B X F1 n n' := fun σ' H' F' G' M' q s r => k σ' H' F' G' M' q (e.trans s) r
theorem KR.mono {q : D → Mem → Prop} {q' : VK} (e : Same F F1) (k : KR B X F q q') : KR B X F1 q q' := fun v H' F' d M' h s => k v H' F' d M' h (e.trans s)
theorem KS.mono {D' : Ends} (e : Same F F1) (k : KS B X F E D') : KS B X F1 E D' := ⟨k.nx.mono e, k.rt.mono e, k.bk.mono e, k.ct.mono e⟩
theorem SXs.imp {E2 : En} (h : SXs B X sts E G M) (h1 : ∀ G M, E.nx G M → E2.nx G M) (h2 : ∀ d M, E.rt d M → E2.rt d M) (h3 : ∀ G M, E.bk G M → E2.bk G M) (h4 : ∀ G M, E.ct G M → E2.ct G M) : SXs B X sts E2 G M := fun F σ H D' r k =>
  h F σ H D' r ⟨fun _ _ _ _ _ q => k.nx _ _ _ _ _ (h1 _ _ q), fun _ _ _ _ _ q => k.rt _ _ _ _ _ (h2 _ _ q), fun _ _ _ _ _ q => k.bk _ _ _ _ _ (h3 _ _ q), fun _ _ _ _ _ q => k.ct _ _ _ _ _ (h4 _ _ q)⟩

/-! ### blocks -/
theorem sxs_nil (q : E.nx G M) : SXs B X [] E G M := fun F σ H D' r k => WSs.of pss_nil (k.nx σ H F G M q (Same.refl F) r)
theorem sxs_cons (h : SX B X st (E.sq (SXs B X rest E)) G M) : SXs B X (st :: rest) E G M := fun F σ H D' r k =>
  WSs.of (pss_cons ps_ws pss_wss) (h F σ H _ r ⟨fun σ1 H1 F1 G1 M1 q1 s1 r1 => q1 F1 σ1 H1 D' r1 (k.mono s1), k.rt, k.bk, k.ct⟩)
theorem sxs_one (h : SX B X st E G M) : SXs B X [st] E G M := fun F σ H D' r k => WSs.of (pss_one ps_ws) (h F σ H D' r k)
/-- less is known of the cells -/
theorem sxs_less (h : ∀ a o, M' a = some o → M a = some o) (q : SXs B X sts E G M') : SXs B X sts E G M := fun F σ H D' r k => q F σ H D' (r.less h) k
theorem ex_less (h : EX B X e G M fun d M1 => ∃ M2 : Mem, (∀ a o, M2 a = some o → M1 a = some o) ∧ Q d M2) : EX B X e G M Q := fun F σ H Q' r k =>
  h F σ H Q' r fun v H1 F1 d1 M1 ⟨M2, hl, q⟩ s1 r1 p1 => k v H1 F1 d1 M2 q s1 (r1.less hl) p1
/-- a list cell that is handed on frozen -/
theorem ex_freeze (h : EX B X e G M fun d M1 => ∃ p ds, d = .ref p ∧ M1 p = some (.lst ds) ∧ Q (.lst ds) (mdel M1 p)) : EX B X e G M Q := fun F σ H Q' r k =>
  h F σ H Q' r fun v H1 F1 d1 M1 ⟨p, ds, e, hm, q⟩ s1 r1 p1 => by
    subst e; cases p1
    obtain ⟨F2, s2, r2, p2⟩ := r1.freeze hm
    exact k _ H1 F2 _ _ q (s1.trans s2) r2 p2
/-- a slot's list cell is frozen -/
theorem sxs_freeze {i : Nat} {p : Addr} {ds : List D} (hG : G[i]? = some (some (.ref p))) (hM : M p = some (.lst ds)) (h : SXs B X sts E (G.set i (some (.lst ds))) (mdel M p)) : SXs B X sts E G M := fun F σ H D' r k => by
  obtain ⟨F2, s2, r2, p2⟩ := r.freeze hM
  refine h F2 σ H D' ⟨?_, r2.ex, r2.mem, r2.bf, r2.bk⟩ (k.mono s2)
  obtain ⟨v, hv, pv⟩ := r2.slots.2 i _ hG
  cases pv
  have z := r2.slots.set (i := i) p2
  have e : σ.set i (some (.ref p)) = σ := by
    apply List.ext_getElem?
    intro j
    by_cases hj : i = j
    · subst hj
      rw [List.getElem?_set_self (List.getElem?_eq_some_iff.mp hv).1, hv]
    · rw [List.getElem?_set_ne hj]
  rw [e] at z
  exact z

/-! ### small statements -/
theorem sx_pass (q : E.nx G M) : SX B X (.Pass pos) E G M := fun F σ H D' r k => WS.of ps_pass (k.nx σ H F G M q (Same.refl F) r)
theorem sx_break (q : E.bk G M) : SX B X (.Break pos) E G M := fun F σ H D' r k => WS.of ps_break (k.bk σ H F G M q (Same.refl F) r)
theorem sx_continue (q : E.ct G M) : SX B X (.Continue pos) E G M := fun F σ H D' r k => WS.of ps_continue (k.ct σ H F G M q (Same.refl F) r)
theorem sx_expr (hs : swapsWith e none pos.line X.env = pure false) (h : EX B X e G M fun _ M1 => E.nx G M1) : SX B X (.Expr e pos) E G M := fun F σ H D' r k =>
  WS.of (ps_expr pe_we hs) (h F σ H _ r fun v H1 F1 d1 M1 q1 s1 r1 p1 => k.nx σ H1 F1 G M1 q1 s1 r1)
theorem sx_ret (h : EX B X e G M E.rt) : SX B X (.Return (some e) pos) E G M := fun F σ H D' r k =>
  WS.of (ps_ret pe_we) (h F σ H _ r fun v H1 F1 d1 M1 q1 s1 r1 p1 => k.rt v H1 F1 d1 M1 q1 s1 ⟨_, _, r1⟩ p1)
theorem sx_retN (q : E.rt .non M) : SX B X (.Return none pos) E G M := fun F σ H D' r k => WS.of ps_retN (k.rt .non H F .non M q (Same.refl F) ⟨_, _, r⟩ .non)
theorem sx_if {A1 B1 : List Stmt} (h : TX B X c G M fun t M1 => if t = true then SXs B X A1 E G M1 else SXs B X B1 E G M1) : SX B X (.If c A1 B1 pos) E G M := fun F σ H D' r k =>
  WS.of (ps_if pt_wt pss_wss pss_wss) (h F σ H _ r fun t H1 F1 M1 q1 s1 r1 => ite_mono q1 (fun q => q F1 σ H1 D' r1 (k.mono s1)) fun q => q F1 σ H1 D' r1 (k.mono s1))

/-! ### targets -/
/-- a name to which is stored -/
structure Lc (X : Cx) (i : Nat) (x : Str) : Prop where
  nd : X.N.Nodup
  n : X.N[i]? = some x
  l : Loc X.env.scope x
  f : X.fn x = true ∨ X.env.scope.names.lookup x = some .local
theorem R.set {K : PySem.W.Frag} {H : Hp} {i : Nat} {v : V} (r : R B K F σ H G M) (p : Rp K F v d) : R B K F (σ.set i (some v)) H (G.set i (some d)) M := ⟨r.slots.set p, r.ex, r.mem, r.bf, r.bk⟩
theorem gx_name {i : Nat} {x : Str} {Q : Sl → Mem → Prop} (h : Lc X i x) (q : Q (G.set i (some d)) M) : GX B X (.Name x pos) d G M Q := fun F σ H Q' v r p k =>
  WG.of (pg_name h.nd h.n h.l h.f) (k _ H F _ M q (Same.refl F) (r.set p))
theorem gxs_nil {Q : Sl → Mem → Prop} (q : Q G M) : GXs B X [] [] G M Q := fun F σ H Q' vs r p k => by
  cases p
  exact WGs.of pgs_nil ⟨rfl, k σ H F G M q (Same.refl F) r⟩
theorem gxs_cons {Q : Sl → Mem → Prop} {t : Expr} {ts : List Expr} {ds : List D} (hs : (assignEach (t :: ts) X.env).map (·.2) = assign t X.env :: (assignEach ts X.env).map (·.2))
    (h : GX B X t d G M fun G1 M1 => GXs B X ts ds G1 M1 Q) : GXs B X (t :: ts) (d :: ds) G M Q := fun F σ H Q' vs r p k => by
  cases p with
  | cons p1 p2 => exact WGs.of (pgs_cons pg_wg pgs_wgs hs) ⟨_, _, rfl, h F σ H _ _ r p1 fun σ1 H1 F1 G1 M1 q1 s1 r1 => q1 F1 σ1 H1 Q' _ r1 (p2.mono s1) (k.mono s1)⟩
theorem gx_tup {Q : Sl → Mem → Prop} {ts : List Expr} {kk : Nat} {ds : List D} {n : Nat} (hc : X.calm = true) (hl : ds.length = n) (hn : (assignEach ts X.env).length = n) (hst : (assignEach ts X.env).findIdx? (·.1) = none)
    (h : GXs B X ts ds G M Q) : GX B X (.Tuple ts kk pos) (.tup ds) G M Q := fun F σ H Q' v r p k => by
  cases p with
  | @tup a xs _ hq ra => exact WG.of (pg_tup hc pgs_wgs hn hst) ⟨a, xs, rfl, sq_same r.ex hq, by rw [ra.length, hl], h F σ H Q' xs r ra k⟩
theorem sx_asg (hs : swapsWithSole [tg] e pos.line X.env = pure false) (hw : swappedStores [tg] e X.env = pure none) (h1 : (assignEach [tg] X.env).map (·.2) = [assign tg X.env])
    (h : EX B X e G M fun d M1 => GX B X tg d G M1 E.nx) : SX B X (.Assign [tg] e pos) E G M := fun F σ H D' r k =>
  WS.of (ps_asg pe_we pg_wg hs hw h1) (h F σ H _ r fun v H1 F1 d1 M1 q1 s1 r1 p1 => q1 F1 σ H1 _ v r1 p1 (k.nx.mono s1))
theorem sx_set {i : Nat} {x : Str} (h : Lc X i x) (hs : swapsWith e (some (.Name x pos')) pos.line X.env = pure false) (q : EX B X e G M fun d M1 => E.nx (G.set i (some d)) M1) : SX B X (.Assign [.Name x pos'] e pos) E G M := fun F σ H D' r k =>
  WS.of (ps_set h.nd h.n h.l pe_we hs h.f) (q F σ H _ r fun v H1 F1 d1 M1 q1 s1 r1 p1 => k.nx _ H1 F1 _ M1 q1 s1 (r1.set p1))
/-- a, b = x, y with plain local names -/
theorem sx_par {i j : Nat} {x y : Str} {px py pt : Pos} {kt k2 pt2} (hc : X.calm = true) (hN : X.N.Nodup) (hi : X.N[i]? = some x) (hj : X.N[j]? = some y) (hij : i ≠ j) (hx : X.env.scope.names.lookup x = some .local) (hy : X.env.scope.names.lookup y = some .local)
    (hw : swappedStores [.Tuple [.Name x px, .Name y py] kt pt] (.Tuple [a, b] k2 pt2) X.env = pure (some [x, y])) (hs : swapsWithSole [.Tuple [.Name x px, .Name y py] kt pt] (.Tuple [a, b] k2 pt2) pos.line X.env = pure false)
    (ha : starEach [a, b] X.env = (false, eval a X.env) :: starEach [b] X.env) (hb : starEach [b] X.env = (false, eval b X.env) :: starEach [] X.env)
    (h : EX B X a G M fun d1 M1 => EX B X b G M1 fun d2 M2 => E.nx ((G.set i (some d1)).set j (some d2)) M2) : SX B X (.Assign [.Tuple [.Name x px, .Name y py] kt pt] (.Tuple [a, b] k2 pt2) pos) E G M := fun F σ H D' r k =>
  WS.of (ps_par hc hN hi hj hij hx hy (pa_cons pe_we (pa_cons pe_we pa_nil hb) ha) hw hs) (h F σ H _ r fun v1 H1 F1 d1 M1 q1 s1 r1 p1 => q1 F1 σ H1 _ r1 fun v2 H2 F2 d2 M2 q2 s2 r2 p2 =>
    ⟨v1, v2, rfl, k.nx _ H2 F2 _ M2 q2 (s1.trans s2) ((r2.set (p1.mono s2)).set p2)⟩)
/-- a cell's item is stored -/
theorem gx_sub {Q : Sl → Mem → Prop} {i : Expr} (ha : ∀ v, assign (.Subscript o i pos) X.env v = (do
      let ov ← holding [v] (eval o X.env)
      let iv ← holding [v, ov] (eval i X.env)
      standAt pos
      holding [v, ov, iv] (setItem ov iv v)
      release [v, ov, iv] []))
    (h : EX B X o G M fun x M1 => EX B X i G M1 fun y M2 => ∃ l ds k j, x = .ref l ∧ y = .int k ∧ M2 l = some (.lst ds) ∧ ixN ds.length k = some j ∧ Q G (mupd M2 l (.lst (ds.set j d)))) : GX B X (.Subscript o i pos) d G M Q := fun F σ H Q' v r p k =>
  WG.of (pg_sub pe_we pe_we set_list ha) (h F σ H _ r fun v1 H1 F1 d1 M1 q1 s1 r1 p1 => q1 F1 σ H1 _ r1 fun v2 H2 F2 d2 M2 q2 s2 r2 p2 => by
    obtain ⟨l, ds, kk, j, e1, e2, hm, hj, q⟩ := q2
    subst e1; subst e2; cases p1; cases p2
    obtain ⟨f0, xs, hx, rx⟩ := r2.mem l _ hm
    refine ⟨l, xs, kk, j, rfl, rfl, hx, by rw [rx.length]; exact hj, ?_⟩
    exact k σ _ F2 G _ q (s1.trans s2) (r2.write hm ⟨_, upd_same, rx.set j (p.mono (s1.trans s2))⟩))

/-! ### while -/
theorem sx_while {body : List Stmt} (hp : PassesOwn (model X.prog X.w) X.A X.env X.xe) (I : Nat → Sl → Mem → Prop) {m : Nat} (h0 : I m G M)
    (h : ∀ m G' M', I m G' M' → TX B X c G' M' fun t M1 => if t = true then SXs B X body (E.lp fun G2 M2 => ∃ m', m' < m ∧ I m' G2 M2) G' M1 else E.nx G' M1) :
    SX B X (.While c body [] pos) E G M := fun F σ H D' r k =>
  WS.of (ps_while hp pt_wt pss_wss) ⟨fun m σ' H' => ∃ F' G' M', Same F F' ∧ R B X.K F' σ' H' G' M' ∧ I m G' M', ⟨m, F, G, M, Same.refl F, r, h0⟩, fun m σ' H' ⟨F', G', M', s', r', i'⟩ =>
    h m G' M' i' F' σ' H' _ r' fun t H1 F1 M1 q1 s1 r1 => by
      cases t with
      | true =>
        rw [if_pos rfl] at q1 ⊢
        refine ⟨fun σ2 H2 => ∃ m', m' < m ∧ ∃ F' G' M', Same F F' ∧ R B X.K F' σ2 H2 G' M' ∧ I m' G' M', fun _ _ z => z, q1 F1 σ' H1 _ r1 ⟨?_, (k.mono (s'.trans s1)).rt, (k.mono (s'.trans s1)).nx, ?_⟩⟩
        · intro σ2 H2 F2 G2 M2 ⟨m', hm, i2⟩ s2 r2
          exact ⟨m', hm, F2, G2, M2, (s'.trans s1).trans s2, r2, i2⟩
        · intro σ2 H2 F2 G2 M2 ⟨m', hm, i2⟩ s2 r2
          exact ⟨m', hm, F2, G2, M2, (s'.trans s1).trans s2, r2, i2⟩
      | false =>
        rw [if_neg Bool.false_ne_true] at q1 ⊢
        exact k.nx _ _ _ _ _ q1 (s'.trans s1) r1⟩
end

/-! ### what is walked -/
/-- while F stands, J gives the data ds, one by one -/
structure Wk (K : PySem.W.Frag) (F : Hp) (J : It) (ds : List D) : Prop where
  goes : ∀ i H, i < ds.length → Same F H → J.go i H
  stops : ∀ H, Same F H → J.stop ds.length H
  yields : ∀ i H x H', i < ds.length → Same F H → J.yld i H x H' → ∃ d, ds[i]? = some d ∧ ∀ B F1 σ G M, Same F F1 → R B K F1 σ H G M → ∃ F2, Same F1 F2 ∧ R B K F2 σ H' G M ∧ Rp K F2 x d
def WIt (X : Cx) (tg iter : Expr) : TI := fun σ H Rr => ∀ (pins : List (Addr × Obj)) (s : Shared), Inv X pins σ H s →
  wpAny (model X.prog X.w) X.A (eval iter X.env) (fun v s1 => wpAny (model X.prog X.w) X.A (pyIter v) (PIE X pins σ tg Rr) X.xe s1) X.xe s
theorem pi_wi {X : Cx} {tg iter : Expr} : PI X tg iter (WIt X tg iter) := ⟨fun pins s _ _ _ I h => h pins s I⟩
theorem WIt.of {X : Cx} {tg iter : Expr} {t : TI} {σ : L2.St} {H : Hp} {Rr : It → Hp → Prop} (h : PI X tg iter t) (q : t σ H Rr) : WIt X tg iter σ H Rr := fun pins s I => h.run pins s σ H Rr I q
/-- an iterable that gives ds -/
def LX (B : Bs) (X : Cx) (tg iter : Expr) (G : Sl) (M : Mem) (Q : List D → Mem → Prop) : Prop := ∀ F σ H (R' : It → Hp → Prop), R B X.K F σ H G M →
  (∀ J H' F' ds M', Q ds M' → Same F F' → R B X.K F' σ H' G M' → Wk X.K F' J ds → R' J H') → WIt X tg iter σ H R'
section
variable {B : Bs} {X : Cx} {a b c e o tg iter : Expr} {es : List Expr} {G G' : Sl} {M M' : Mem} {Q : List D → Mem → Prop} {E : En} {pos p pos' : Pos} {F F1 : Hp} {σ : L2.St} {st : Stmt} {sts rest : List Stmt}
theorem wk_list {K : PySem.W.Frag} {a : Addr} {xs : List V} {ds : List D} (h : SqL K F a xs) (r : RpAll K F xs ds) : Wk K F (Itl K a) ds where
  goes := fun i H hi s => ⟨xs, xs[i]'(by rw [r.length]; exact hi), s.seq h, by simp [r.length, hi]⟩
  stops := fun H s => ⟨xs, s.seq h, by rw [r.length]; exact Nat.le_refl _⟩
  yields := fun i H x H' hi s y => by
    obtain ⟨e, y⟩ := y
    subst e
    obtain ⟨d, hd, rd⟩ := r.getV (y xs (s.seq h))
    exact ⟨d, hd, fun B F1 σ G M s1 r1 => ⟨F1, Same.refl F1, r1, rd.mono s1⟩⟩
theorem wk_tup {K : PySem.W.Frag} {a : Addr} {xs : List V} {ds : List D} (h : SqT K F a xs) (r : RpAll K F xs ds) : Wk K F (Itt K a) ds where
  goes := fun i H hi s => ⟨xs, xs[i]'(by rw [r.length]; exact hi), sq_same s h, by simp [r.length, hi]⟩
  stops := fun H s => ⟨xs, sq_same s h, by rw [r.length]; exact Nat.le_refl _⟩
  yields := fun i H x H' hi s y => by
    obtain ⟨e, y⟩ := y
    subst e
    obtain ⟨d, hd, rd⟩ := r.getV (y xs (sq_same s h))
    exact ⟨d, hd, fun B F1 σ G M s1 r1 => ⟨F1, Same.refl F1, r1, rd.mono s1⟩⟩
/-- the ints that range gives -/
def rangeD (lo : Int) (n : Nat) : List D := (List.range n).map fun (i : Nat) => D.int (lo + (i : Int))
theorem rangeD_len {lo : Int} {n : Nat} : (rangeD lo n).length = n := by simp [rangeD]
theorem rangeD_at {lo : Int} {n i : Nat} {d : D} (h : (rangeD lo n)[i]? = some d) : i < n ∧ d = .int (lo + (i : Int)) := by
  have hi : i < n := by
    have := (List.getElem?_eq_some_iff.mp h).1
    rwa [rangeD_len] at this
  refine ⟨hi, ?_⟩
  unfold rangeD at h
  rw [List.getElem?_map, List.getElem?_range hi] at h
  exact (Option.some.inj h).symm
theorem wk_range {K : PySem.W.Frag} {lo : Int} {n : Nat} : Wk K F (Itr lo n) (rangeD lo n) where
  goes := fun i H hi s => by rw [rangeD_len] at hi; exact hi
  stops := fun H s => by
    show n ≤ _
    rw [rangeD_len]
    exact Nat.le_refl n
  yields := fun i H x H' hi s y => by
    obtain ⟨e, y⟩ := y
    subst e; subst y
    have hi' : i < n := by rw [rangeD_len] at hi; exact hi
    exact ⟨.int (lo + i), by unfold rangeD; rw [List.getElem?_map, List.getElem?_range hi']; rfl, fun B F1 σ G M s1 r1 => ⟨F1, Same.refl F1, r1, .int _⟩⟩
theorem lx_list (h : EX B X e G M fun d M1 => ∃ ds, d = .lst ds ∧ Q ds M1) : LX B X tg e G M Q := fun F σ H R' r k =>
  WIt.of (pi_list pe_we) (h F σ H _ r fun v H1 F1 d1 M1 ⟨ds, e1, q⟩ s1 r1 p1 => by
    subst e1
    cases p1 with
    | @lst a xs _ hs rs => exact ⟨a, rfl, ⟨xs, SqL.of (r1.ex _ _ hs)⟩, k _ _ F1 ds M1 q s1 r1 (wk_list (SqL.of hs) rs)⟩)
theorem lx_tup (h : EX B X e G M fun d M1 => ∃ ds, d = .tup ds ∧ Q ds M1) : LX B X tg e G M Q := fun F σ H R' r k =>
  WIt.of (pi_tup pe_we) (h F σ H _ r fun v H1 F1 d1 M1 ⟨ds, e1, q⟩ s1 r1 p1 => by
    subst e1
    cases p1 with
    | @tup a xs _ hs rs => exact ⟨a, rfl, ⟨xs, sq_same r1.ex hs⟩, k _ _ F1 ds M1 q s1 r1 (wk_tup hs rs)⟩)
/-- a list cell that stays as it is while it is walked: it is frozen -/
theorem lx_cell (h : EX B X e G M fun d M1 => ∃ l ds, d = .ref l ∧ M1 l = some (.lst ds) ∧ Q ds (mdel M1 l)) : LX B X tg e G M Q := fun F σ H R' r k =>
  WIt.of (pi_list pe_we) (h F σ H _ r fun v H1 F1 d1 M1 ⟨l, ds, e1, hm, q⟩ s1 r1 p1 => by
    subst e1
    cases p1
    obtain ⟨F2, s2, r2, p2⟩ := r1.freeze hm
    cases p2 with
    | @lst a xs _ hs rs => exact ⟨l, rfl, ⟨xs, SqL.of (r2.ex _ _ hs)⟩, k _ _ F2 ds _ q (s1.trans s2) r2 (wk_list (SqL.of hs) rs)⟩)
theorem lx_range1 (hg : Gl X "range") (hm : X.mg "range" = none) (hs : starEach [a] X.env = [(false, eval a X.env)])
    (h : EX B X a G M fun d M1 => ∃ n : Int, d = .int n ∧ -(2 ^ 62) ≤ n ∧ n < 2 ^ 62 ∧ Q (rangeD 0 n.toNat) M1) : LX B X tg (.Call (.Name "range" p) [a] [] pos) G M Q := fun F σ H R' r k =>
  WIt.of (pi_range1 hg hm (pa_cons pe_we pa_nil (by rw [hs]; rfl)) hs) (h F σ H _ r fun v H1 F1 d1 M1 ⟨n, e1, h1, h2, q⟩ s1 r1 p1 => by
    subst e1; cases p1
    exact ⟨n, rfl, h1, h2, k _ _ F1 _ M1 q s1 r1 wk_range⟩)
theorem lx_range2 (hg : Gl X "range") (hm : X.mg "range" = none) (hs : starEach [a, b] X.env = [(false, eval a X.env), (false, eval b X.env)]) (hs2 : starEach [b] X.env = [(false, eval b X.env)])
    (h : EX B X a G M fun d M1 => EX B X b G M1 fun d2 M2 => ∃ m n : Int, d = .int m ∧ d2 = .int n ∧ (-(2 ^ 62) ≤ m ∧ m < 2 ^ 62 ∧ -(2 ^ 62) ≤ n ∧ n < 2 ^ 62) ∧ Q (rangeD m (n - m).toNat) M2) : LX B X tg (.Call (.Name "range" p) [a, b] [] pos) G M Q := fun F σ H R' r k =>
  WIt.of (pi_range2 hg hm (pa_cons pe_we (pa_cons pe_we pa_nil (by rw [hs2]; rfl)) (by rw [hs, hs2])) hs hs2) (h F σ H _ r fun v H1 F1 d1 M1 q1 s1 r1 p1 => q1 F1 σ H1 _ r1 fun v2 H2 F2 d2 M2 q2 s2 r2 p2 => by
    obtain ⟨m, n, e1, e2, hh, q⟩ := q2
    subst e1; subst e2; cases p1; cases p2
    exact ⟨m, n, rfl, hh, k _ _ F2 _ M2 q (s1.trans s2) r2 wk_range⟩)
/-- the pairs that enumerate gives -/
def enumD (ds : List D) : List D := (List.range ds.length).map fun i => D.tup [.int (i : Nat), ds.getD i .non]
theorem enumD_get {ds : List D} {i : Nat} {d : D} (h : ds[i]? = some d) : (enumD ds)[i]? = some (.tup [.int (i : Nat), d]) := by
  unfold enumD
  have hi := (List.getElem?_eq_some_iff.mp h).1
  rw [List.getElem?_map, List.getElem?_range hi]
  show some (D.tup [.int (i : Nat), ds.getD i .non]) = _
  rw [List.getD_eq_getElem?_getD, h]
  rfl
theorem enumD_len {ds : List D} : (enumD ds).length = ds.length := by simp [enumD]
theorem enumD_at {ds : List D} {i : Nat} {d : D} (h : (enumD ds)[i]? = some d) : ∃ x, ds[i]? = some x ∧ d = .tup [.int (i : Nat), x] := by
  have hi : i < ds.length := by rw [← enumD_len]; exact (List.getElem?_eq_some_iff.mp h).1
  have e : ds[i]? = some ds[i] := by simp
  rw [enumD_get e] at h
  exact ⟨ds[i], e, (Option.some.inj h).symm⟩
/-- a new pair -/
theorem pair_new {K : PySem.W.Frag} {F1 H : Hp} {G : Sl} {M : Mem} {T : Addr} {x y : V} {d e : D} (r : R B K F1 σ H G M) (hT : H T = none) (rx : Rp K F1 x d) (ry : Rp K F1 y e) :
    ∃ F2, Same F1 F2 ∧ R B K F2 σ (upd H T (.tup [x, y])) G M ∧ Rp K F2 (.ref T) (.tup [d, e]) :=
  ⟨upd F1 T (.tup [x, y]), (r.new hT).1, (r.new hT).2, .tup sq_upd (.cons (rx.mono (r.new hT).1) (.cons (ry.mono (r.new hT).1) .nil))⟩
theorem wk_enum {K : PySem.W.Frag} {a : Addr} {xs : List V} {ds : List D} (h : SqL K F a xs) (r : RpAll K F xs ds) : Wk K F (Ite K a) (enumD ds) where
  goes := fun i H hi s => by
    rw [enumD_len] at hi
    exact ⟨xs, xs[i]'(by rw [r.length]; exact hi), s.seq h, by simp [r.length, hi]⟩
  stops := fun H s => ⟨xs, s.seq h, by rw [r.length, enumD_len]; exact Nat.le_refl _⟩
  yields := fun i H x H' hi s y => by
    obtain ⟨T, u, h1, h2, h3, h4⟩ := y
    subst h1; subst h3
    obtain ⟨d, hd, rd⟩ := r.getV (h4 xs (s.seq h))
    exact ⟨_, enumD_get hd, fun B F1 σ G M s1 r1 => pair_new r1 h2 (.int _) (rd.mono s1)⟩
theorem lx_enum (hg : Gl X "enumerate") (hm : X.mg "enumerate" = none) (hs : starEach [e] X.env = [(false, eval e X.env)]) (ht : ∃ es k pp, tg = .Tuple es k pp)
    (h : EX B X e G M fun d M1 => ∃ ds, d = .lst ds ∧ Q (enumD ds) M1) : LX B X tg (.Call (.Name "enumerate" p) [e] [] pos) G M Q := fun F σ H R' r k => by
  obtain ⟨es, kk, pp, rfl⟩ := ht
  refine WIt.of (pi_enum hg hm (pa_cons pe_we pa_nil (by rw [hs]; rfl)) hs) (h F σ H _ r fun v H1 F1 d1 M1 ⟨ds, e1, q⟩ s1 r1 p1 => ?_)
  subst e1
  cases p1 with
  | @lst a xs _ hs rs => exact ⟨a, xs, rfl, SqL.of (r1.ex _ _ hs), k _ _ F1 _ M1 q s1 r1 (wk_enum (SqL.of hs) rs)⟩
end
end FL

namespace FL
open PySem PySem.Spec PyProof.Rows L2
section
variable {B : Bs} {X : Cx} {a b c e o tg iter elt : Expr} {es : List Expr} {G G' : Sl} {M M' : Mem} {Q : D → Mem → Prop} {E : En} {pos p pos' : Pos} {F F1 : Hp} {σ : L2.St} {st : Stmt} {sts rest body : List Stmt}

/-! ### for -/
theorem sx_for (hp : PassesOwn (model X.prog X.w) X.A X.env X.xe) (hc : X.calm = true) (hs : ∀ x, foldedSetIterable iter X.env x = pure x)
    (h : LX B X tg iter G M fun ds M1 => ∃ I : Nat → Sl → Mem → Prop, I 0 G M1 ∧
      (∀ i d G' M', ds[i]? = some d → I i G' M' → GX B X tg d G' M' fun G2 M2 => SXs B X body (E.lp (I (i + 1))) G2 M2) ∧ ∀ G' M', I ds.length G' M' → E.nx G' M') :
    SX B X (.For tg iter body [] pos) E G M := fun F σ H D' r k =>
  WS.of (ps_for hp hc pi_wi pg_wg pss_wss hs) (h F σ H _ r fun J H1 F1 ds M1 ⟨I, i0, turn, fin⟩ s1 r1 w => by
    refine ⟨fun i m σ' H' => m = ds.length - i ∧ i ≤ ds.length ∧ ∃ F' G' M', Same F1 F' ∧ R B X.K F' σ' H' G' M' ∧ I i G' M', ⟨_, rfl, Nat.zero_le _, F1, G, M1, Same.refl F1, r1, i0⟩, ?_⟩
    rintro i m σ' H' ⟨rfl, hi, F', G', M', s', r', hI⟩
    by_cases hlt : i < ds.length
    · refine .inr ⟨w.goes i H' hlt (s'.trans r'.ex), fun σ2 H2 => ∃ F' G' M', Same F1 F' ∧ R B X.K F' σ2 H2 G' M' ∧ I (i + 1) G' M', fun σ2 H2 z => ⟨ds.length - (i + 1), by omega, rfl, hlt, z⟩, fun x H2 y => ?_⟩
      obtain ⟨d, hd, yy⟩ := w.yields i H' x H2 hlt (s'.trans r'.ex) y
      obtain ⟨F2, s2, r2, p2⟩ := yy B F' σ' G' M' s' r'
      refine turn i d G' M' hd hI F2 σ' H2 _ x r2 p2 fun σ3 H3 F3 G3 M3 q3 s3 r3 => q3 F3 σ3 H3 _ r3 ?_
      have s03 : Same F F3 := s1.trans (s'.trans (s2.trans s3))
      refine ⟨?_, k.rt.mono s03, k.nx.mono s03, ?_⟩
      · exact fun σ4 H4 F4 G4 M4 q4 s4 r4 => ⟨F4, G4, M4, (s'.trans (s2.trans s3)).trans s4, r4, q4⟩
      · exact fun σ4 H4 F4 G4 M4 q4 s4 r4 => ⟨F4, G4, M4, (s'.trans (s2.trans s3)).trans s4, r4, q4⟩
    · have e : i = ds.length := by omega
      subst e
      exact .inl ⟨w.stops H' (s'.trans r'.ex), k.nx σ' H' F' G' M' (fin G' M' hI) (s1.trans s') r'⟩)

/-! ### comprehensions -/
def gwipe (G : Sl) : List Nat → Sl
  | [] => G
  | v :: vs => (gwipe G vs).set v none
theorem R.wipe {K : PySem.W.Frag} {H : Hp} (r : R B K F σ H G M) : ∀ vs : List Nat, R B K F (L2.wipe σ vs) H (gwipe G vs) M
  | [] => r
  | v :: vs => by
    have ih := R.wipe r vs
    exact ⟨ih.slots.setNone, ih.ex, ih.mem, ih.bf, ih.bk⟩
theorem wipe_in {σ : L2.St} {i : Nat} (hl : i < σ.length) : ∀ {vs : List Nat}, i ∈ vs → (L2.wipe σ vs)[i]? = some none
  | [], h => nomatch h
  | v :: vs, h => by
    unfold L2.wipe
    by_cases e : v = i
    · subst e
      rw [List.getElem?_set_self (by rw [wipe_length]; exact hl)]
    · rw [List.getElem?_set_ne e]
      exact wipe_in hl ((List.mem_cons.mp h).resolve_left fun z => e z.symm)
theorem wipe_out' {σ : L2.St} {i : Nat} : ∀ {vs : List Nat}, i ∉ vs → (L2.wipe σ vs)[i]? = σ[i]?
  | [], _ => rfl
  | v :: vs, h => by
    unfold L2.wipe
    rw [List.getElem?_set_ne (fun e => h (by simp [e]))]
    exact wipe_out' fun z => h (List.mem_cons_of_mem _ z)
theorem wipe_eq {σ τ : L2.St} {vs : List Nat} (hl : σ.length = τ.length) (h : ∀ i, i ∉ vs → σ[i]? = τ[i]?) : L2.wipe σ vs = L2.wipe τ vs := by
  apply List.ext_getElem?
  intro i
  by_cases hi : i ∈ vs
  · by_cases hb : i < σ.length
    · rw [wipe_in hb hi, wipe_in (by rw [← hl]; exact hb) hi]
    · rw [List.getElem?_eq_none (by rw [wipe_length]; omega), List.getElem?_eq_none (by rw [wipe_length]; omega)]
  · rw [wipe_out' hi, wipe_out' hi, h i hi]
/-- names to which a comprehension's item goes: one name, or a tuple of names -/
abbrev Tg := Sum Nat (List Nat)
def Tg.slots : Tg → List Nat
  | .inl i => [i]
  | .inr is => is
def gNs : List Nat → TGs
  | [] => gNil
  | i :: r => gCons (gName i) (gNs r)
def gTg (K : PySem.W.Frag) : Tg → TG
  | .inl i => gName i
  | .inr is => gTup K is.length (gNs is)
def setAll (σ : L2.St) : List Nat → List V → L2.St
  | i :: is, v :: vs => setAll (σ.set i (some v)) is vs
  | _, _ => σ
def gsetAll (G : Sl) : List Nat → List D → Sl
  | i :: is, v :: vs => gsetAll (G.set i (some v)) is vs
  | _, _ => G
theorem gNs_of {H : Hp} {Q : L2.St → Hp → Prop} : ∀ {is : List Nat} {vs : List V} {σ : L2.St}, vs.length = is.length → Q (setAll σ is vs) H → gNs is vs σ H Q
  | [], [], _, _, h => ⟨rfl, h⟩
  | [], _ :: _, _, e, _ => by simp at e
  | _ :: _, [], _, e, _ => by simp at e
  | i :: is, v :: vs, σ, e, h => ⟨v, vs, rfl, gNs_of (is := is) (vs := vs) (by simpa using e) h⟩
theorem R.setAll {K : PySem.W.Frag} {F H : Hp} {M : Mem} : ∀ {is : List Nat} {vs : List V} {ds : List D} {σ : L2.St} {G : Sl}, R B K F σ H G M → RpAll K F vs ds → R B K F (FL.setAll σ is vs) H (gsetAll G is ds) M
  | [], _, _, _, _, r, p => by cases p <;> exact r
  | _ :: _, [], _, _, _, r, p => by cases p; exact r
  | i :: is, v :: vs, d :: ds, σ, G, r, .cons p1 p2 => R.setAll (is := is) (vs := vs) (ds := ds) (σ := σ.set i (some v)) (G := G.set i (some d)) (R.set r p1) p2
theorem setAll_len : ∀ {is : List Nat} {vs : List V} {σ : L2.St}, (FL.setAll σ is vs).length = σ.length
  | [], _, _ => by unfold FL.setAll; rfl
  | _ :: _, [], _ => by unfold FL.setAll; rfl
  | i :: is, v :: vs, σ => by
    show (FL.setAll (σ.set i (some v)) is vs).length = σ.length
    rw [setAll_len, List.length_set]
theorem setAll_out {j : Nat} : ∀ {is : List Nat} {vs : List V} {σ : L2.St}, j ∉ is → (FL.setAll σ is vs)[j]? = σ[j]?
  | [], _, _, _ => by unfold FL.setAll; rfl
  | _ :: _, [], _, _ => by unfold FL.setAll; rfl
  | i :: is, v :: vs, σ, h => by
    show (FL.setAll (σ.set i (some v)) is vs)[j]? = σ[j]?
    rw [setAll_out (fun z => h (List.mem_cons_of_mem _ z)), List.getElem?_set_ne (fun e => h (by simp [e]))]
theorem wipe_setAll {σ : L2.St} {is : List Nat} {vs : List V} {own : List Nat} (h : ∀ i ∈ is, i ∈ own) : L2.wipe (FL.setAll (L2.wipe σ own) is vs) own = L2.wipe σ own := by
  refine wipe_eq (by rw [setAll_len, wipe_length]) fun i hi => ?_
  rw [setAll_out fun z => hi (h i z), wipe_out' hi]
/-- a clause's tests: none, or one -/
def TXs (B : Bs) (X : Cx) (ifs : List Expr) (G : Sl) (M : Mem) (Q : Bool → Mem → Prop) : Prop := match ifs with
  | [] => Q true M
  | [c] => TX B X c G M Q
  | _ => False
def WTs (X : Cx) (ifs : List Expr) : TT := fun σ H Q => ∀ (pins : List (Addr × Obj)) (s : Shared), Inv X pins σ H s →
  wpAny (model X.prog X.w) X.A (forIn ifs true fun c r => if r = true then do let ok ← isTrue c X.env (eval c X.env); pure (ForInStep.yield ok) else pure (ForInStep.yield r)) (TP X pins σ Q) X.xe s
theorem txs_ok {ifs : List Expr} {H : Hp} {Q : Bool → Mem → Prop} {Q' : Bool → Hp → Prop} (h : TXs B X ifs G M Q) (r : R B X.K F σ H G M) (k : KT B X F σ G Q Q') : WTs X ifs σ H Q' := by
  match ifs, h with
  | [], h => exact fun pins s I => pts_nil.run pins s σ H Q' I (k true H F M h (Same.refl F) r)
  | [c], h => exact fun pins s I => (pts_one pt_wt).run pins s σ H Q' I (h F σ H Q' r k)
/-- in every context of the block -/
abbrev Bk (X : Cx) (scope : Scope) (P : Cx → Prop) : Prop := ∀ (s : Shared) (H : Hp) (C : Addr) (cl : List (Str × Addr)) (fp : List Addr), P (X.blk s H scope (compEnvC scope cl C X.env) fp)
def WTb (X : Cx) (scope : Scope) (ifs : List Expr) : TT := fun σ H Q => Bk X scope fun X' => WTs X' ifs σ H Q
def WEb (X : Cx) (scope : Scope) (e : Expr) : TE := fun σ H Q => Bk X scope fun X' => WE X' e σ H Q
theorem pts_wtb {scope : Scope} {ifs : List Expr} : Bk X scope fun X' => PTs X' ifs (WTb X scope ifs) := fun s0 H0 C cl fp => ⟨fun pins s _ _ _ I h => h s0 H0 C cl fp pins s I⟩
theorem pe_web {scope : Scope} : Bk X scope fun X' => PE X' e (WEb X scope e) := fun s0 H0 C cl fp => ⟨fun pins s _ _ _ I h => h s0 H0 C cl fp pins s I⟩
/-- an item of data, for the target -/
def TgD (t : Tg) (d : D) (Q : List D → Prop) : Prop := match t with
  | .inl _ => Q [d]
  | .inr is => ∃ ds, d = .tup ds ∧ ds.length = is.length ∧ Q ds
/-- what a comprehension asks: L the new list; I by the turn, what is gathered, and the cells -/
def LcX (B : Bs) (X : Cx) (scope : Scope) (own : List Nat) (t : Tg) (ifs : List Expr) (elt : Expr) (G : Sl) (ds : List D) (M1 : Mem) (fin : Addr → List D → Mem → Prop) : Prop :=
  ∀ L, M1 L = none → ∃ I : Nat → List D → Mem → Prop, I 0 [] (mupd M1 L (.lst [])) ∧
    (∀ i d acc M', ds[i]? = some d → I i acc M' → M' L = some (.lst acc) → TgD t d fun dvs => Bk X scope fun X' => TXs B X' ifs (gsetAll (gwipe G own) t.slots dvs) M' fun b M3 =>
      if b = true then Bk X scope fun X2 => EX B X2 elt (gsetAll (gwipe G own) t.slots dvs) M3 fun y M4 => M4 L = some (.lst acc) ∧ acc.length < sizeLine ∧ I (i + 1) (acc ++ [y]) (mupd M4 L (.lst (acc ++ [y])))
      else M3 L = some (.lst acc) ∧ I (i + 1) acc M3) ∧
    ∀ acc M', I ds.length acc M' → M' L = some (.lst acc) → fin L acc M'
theorem lc_data {scope : Scope} {own : List (Str × Nat)} {t : Tg} {ifs : List Expr} {fin : Addr → List D → Mem → Prop} {Q' : VK} {H : Hp} (ht : ∀ i ∈ t.slots, i ∈ own.map (·.2)) (r : R B X.K F σ H G M)
    (h : LX B X tg iter G M fun ds M1 => LcX B X scope (own.map (·.2)) t ifs elt G ds M1 fin)
    (k : ∀ L acc H' F' M', fin L acc M' → M' L = some (.lst acc) → Same F F' → R B X.K F' σ H' G M' → Q' (.ref L) H') :
    tLc (WIt X tg iter) (gTg X.K t) (WTb X scope ifs) (WEb X scope elt) (own.map (·.2)) σ H Q' := by
  refine h F σ H _ r fun J H1 F1 ds M1 lc s1 r1 w => ?_
  intro L hL
  obtain ⟨I, i0, turn, fn⟩ := lc L (r1.freeM hL)
  refine ⟨fun i m H' => m = ds.length - i ∧ i ≤ ds.length ∧ ∃ F' acc M', Same F1 F' ∧ R B X.K F' σ H' G M' ∧ M' L = some (.lst acc) ∧ I i acc M', ⟨_, rfl, Nat.zero_le _, F1, [], _, Same.refl F1, r1.newCell (o := .lst []) hL ⟨[], upd_same, .nil⟩, mupd_same, i0⟩, ?_⟩
  rintro i m H' ⟨rfl, hi, F', acc, M', s', r', hM, hI⟩
  by_cases hlt : i < ds.length
  · refine .inr ⟨w.goes i H' hlt (s'.trans r'.ex), fun H2 => ∃ F' acc M', Same F1 F' ∧ R B X.K F' σ H2 G M' ∧ M' L = some (.lst acc) ∧ I (i + 1) acc M', fun H2 z => ⟨ds.length - (i + 1), by omega, rfl, hlt, z⟩, fun x H2 y => ?_⟩
    obtain ⟨d, hd, yy⟩ := w.yields i H' x H2 hlt (s'.trans r'.ex) y
    obtain ⟨F2, s2, r2, p2⟩ := yy B F' σ G M' s' r'
    have tt := turn i d acc M' hd hI hM
    have main : ∀ (vs : List V) (dvs : List D), RpAll X.K F2 vs dvs → (Bk X scope fun X' => TXs B X' ifs (gsetAll (gwipe G (own.map (·.2))) t.slots dvs) M' fun b M3 =>
        if b = true then Bk X scope fun X2 => EX B X2 elt (gsetAll (gwipe G (own.map (·.2))) t.slots dvs) M3 fun y M4 => M4 L = some (.lst acc) ∧ acc.length < sizeLine ∧ I (i + 1) (acc ++ [y]) (mupd M4 L (.lst (acc ++ [y])))
        else M3 L = some (.lst acc) ∧ I (i + 1) acc M3) →
        L2.wipe (FL.setAll (L2.wipe σ (own.map (·.2))) t.slots vs) (own.map (·.2)) = L2.wipe σ (own.map (·.2)) ∧ WTb X scope ifs (FL.setAll (L2.wipe σ (own.map (·.2))) t.slots vs) H2 fun b H3 =>
          if b = true then WEb X scope elt (FL.setAll (L2.wipe σ (own.map (·.2))) t.slots vs) H3 fun y H4 => ∃ acc, H4 L = some (.lst acc) ∧ acc.length < sizeLine ∧ (∃ F' acc' M', Same F1 F' ∧ R B X.K F' σ (upd H4 L (.lst (acc ++ [y]))) G M' ∧ M' L = some (.lst acc') ∧ I (i + 1) acc' M')
          else ∃ F' acc M', Same F1 F' ∧ R B X.K F' σ H3 G M' ∧ M' L = some (.lst acc) ∧ I (i + 1) acc M' := by
      intro vs dvs pv hb
      refine ⟨wipe_setAll ht, fun s0 H0 C cl fp => ?_⟩
      have rw0 : R B X.K F2 (FL.setAll (L2.wipe σ (own.map (·.2))) t.slots vs) H2 (gsetAll (gwipe G (own.map (·.2))) t.slots dvs) M' := R.setAll (R.wipe r2 (own.map (·.2))) pv
      refine txs_ok (X := X.blk s0 H0 scope (compEnvC scope cl C X.env) fp) (hb s0 H0 C cl fp) rw0 fun b H3 F3 M3 q3 s3 r3 => ?_
      have back : ∀ {Hx Fx : Hp} {Mx : Mem}, Same F2 Fx → R B X.K Fx (FL.setAll (L2.wipe σ (own.map (·.2))) t.slots vs) Hx (gsetAll (gwipe G (own.map (·.2))) t.slots dvs) Mx → R B X.K Fx σ Hx G Mx := fun sx rx => ⟨r2.slots.mono sx, rx.ex, rx.mem, rx.bf, rx.bk⟩
      cases b with
      | true =>
        rw [if_pos rfl] at q3 ⊢
        intro s5 H5 C5 cl5 fp5
        refine q3 s5 H5 C5 cl5 fp5 F3 _ H3 _ r3 fun y H4 F4 d4 M4 ⟨m4, l4, i4⟩ s4 r4 p4 => ?_
        obtain ⟨_, xs, hx, rx⟩ := r4.mem L _ m4
        refine ⟨xs, hx, by rw [rx.length]; exact l4, F4, acc ++ [d4], _, ((s'.trans s2).trans s3).trans s4, ?_, mupd_same, i4⟩
        exact (back (s3.trans s4) r4).write m4 ⟨_, upd_same, rx.append (.cons p4 .nil)⟩
      | false =>
        rw [if_neg Bool.false_ne_true] at q3 ⊢
        exact ⟨F3, acc, M3, (s'.trans s2).trans s3, back s3 r3, q3.1, q3.2⟩
    cases t with
    | inl j => exact main [x] [d] (.cons p2 .nil) tt
    | inr js =>
      obtain ⟨dvs, e, hl, hb⟩ := tt
      subst e
      cases p2 with
      | @tup a xs _ hq ra => exact ⟨a, xs, rfl, sq_same r2.ex hq, by rw [ra.length, hl], gNs_of (by rw [ra.length, hl]) (main xs dvs ra hb)⟩
  · have e : i = ds.length := by omega
    subst e
    exact .inl ⟨w.stops H' (s'.trans r'.ex), k L acc H' F' M' (fn acc M' hI hM) hM (s1.trans s') r'⟩

theorem pg_tg1 {X' : Cx} {x : Str} {i : Nat} (h : Lc X' i x) : PG X' (.Name x pos) (gTg X'.K (.inl i)) := pg_name h.nd h.n h.l h.f
/-- a comprehension, its list frozen -/
theorem ex_lc {scope : Scope} {own : List (Str × Nat)} {t : Tg} {ifs : List Expr} (hc : X.calm = true) (hN : X.N.Nodup) (ok : BlkOk X.N X.env.scope scope own) (ht : ∀ i ∈ t.slots, i ∈ own.map (·.2))
    (hg : Bk X scope fun X' => PG X' tg (gTg X.K t)) (hs : ∀ x, foldedSetIterable iter X.env x = pure x)
    (h : LX B X tg iter G M fun ds M1 => LcX B X scope (own.map (·.2)) t ifs elt G ds M1 fun L acc M' => Q (.lst acc) (mdel M' L)) : EX B X (.ListComp elt [⟨tg, iter, ifs, 0⟩] scope pos) G M Q := fun F σ H Q' r k =>
  WE.of (pe_lc hc hN pi_wi ok hg pts_wtb pe_web hs) (lc_data ht r h fun L acc H' F' M' q hm s' r' => by
    obtain ⟨F2, s2, r2, p2⟩ := r'.freeze hm
    exact k _ H' F2 _ _ q (s'.trans s2) r2 p2)
/-- .. its list a cell -/
theorem ex_lcM {scope : Scope} {own : List (Str × Nat)} {t : Tg} {ifs : List Expr} (hc : X.calm = true) (hN : X.N.Nodup) (ok : BlkOk X.N X.env.scope scope own) (ht : ∀ i ∈ t.slots, i ∈ own.map (·.2))
    (hg : Bk X scope fun X' => PG X' tg (gTg X.K t)) (hs : ∀ x, foldedSetIterable iter X.env x = pure x)
    (h : LX B X tg iter G M fun ds M1 => LcX B X scope (own.map (·.2)) t ifs elt G ds M1 fun L acc M' => Q (.ref L) M') : EX B X (.ListComp elt [⟨tg, iter, ifs, 0⟩] scope pos) G M Q := fun F σ H Q' r k =>
  WE.of (pe_lc hc hN pi_wi ok hg pts_wtb pe_web hs) (lc_data ht r h fun L acc H' F' M' q hm s' r' => k _ H' F' _ _ q s' r' (.ref L))
/-- name = a comprehension -/
theorem sx_setLc {i : Nat} {y : Str} {py spos : Pos} {scope : Scope} {own : List (Str × Nat)} {t : Tg} {ifs : List Expr} (hc : X.calm = true) (hN : X.N.Nodup) (hy : X.N[i]? = some y) (hyl : X.env.scope.names.lookup y = some .local)
    (hsw : swapsWith (.ListComp elt [⟨tg, iter, ifs, 0⟩] scope pos) (some (.Name y py)) spos.line X.env = pure true) (ok : BlkOk X.N X.env.scope scope own) (ht : ∀ i ∈ t.slots, i ∈ own.map (·.2))
    (hg : Bk X scope fun X' => PG X' tg (gTg X.K t)) (hs : ∀ x, foldedSetIterable iter X.env x = pure x)
    (h : LX B X tg iter G M fun ds M1 => LcX B X scope (own.map (·.2)) t ifs elt G ds M1 fun L acc M' => E.nx (G.set i (some (.lst acc))) (mdel M' L)) : SX B X (.Assign [.Name y py] (.ListComp elt [⟨tg, iter, ifs, 0⟩] scope pos) spos) E G M := fun F σ H D' r k =>
  WS.of (ps_setLc hc hN hy hyl hsw pi_wi ok hg pts_wtb pe_web hs) (lc_data ht r h fun L acc H' F' M' q hm s' r' => by
    obtain ⟨F2, s2, r2, p2⟩ := r'.freeze hm
    exact k.nx _ H' F2 _ _ q (s'.trans s2) (R.set r2 p2))
theorem sx_setLcM {i : Nat} {y : Str} {py spos : Pos} {scope : Scope} {own : List (Str × Nat)} {t : Tg} {ifs : List Expr} (hc : X.calm = true) (hN : X.N.Nodup) (hy : X.N[i]? = some y) (hyl : X.env.scope.names.lookup y = some .local)
    (hsw : swapsWith (.ListComp elt [⟨tg, iter, ifs, 0⟩] scope pos) (some (.Name y py)) spos.line X.env = pure true) (ok : BlkOk X.N X.env.scope scope own) (ht : ∀ i ∈ t.slots, i ∈ own.map (·.2))
    (hg : Bk X scope fun X' => PG X' tg (gTg X.K t)) (hs : ∀ x, foldedSetIterable iter X.env x = pure x)
    (h : LX B X tg iter G M fun ds M1 => LcX B X scope (own.map (·.2)) t ifs elt G ds M1 fun L acc M' => E.nx (G.set i (some (.ref L))) M') : SX B X (.Assign [.Name y py] (.ListComp elt [⟨tg, iter, ifs, 0⟩] scope pos) spos) E G M := fun F σ H D' r k =>
  WS.of (ps_setLc hc hN hy hyl hsw pi_wi ok hg pts_wtb pe_web hs) (lc_data ht r h fun L acc H' F' M' q hm s' r' => k.nx _ H' F' _ _ q s' (R.set r' (.ref L)))
/-- a comprehension that changes no cell: f tells what an item comes to -/
theorem lc_pure {scope : Scope} {own : List Nat} {t : Tg} {ifs : List Expr} {ds : List D} {fin : List D → Mem → Prop} (f : D → Option D) (hl : ds.length < sizeLine)
    (h : ∀ (i : Nat) (d : D) (M' : Mem), ds[i]? = some d → (∀ a o, M a = some o → M' a = some o) → TgD t d fun dvs => Bk X scope fun X' => TXs B X' ifs (gsetAll (gwipe G own) t.slots dvs) M' fun b M3 =>
      if b = true then Bk X scope fun X2 => EX B X2 elt (gsetAll (gwipe G own) t.slots dvs) M3 fun y M4 => M4 = M' ∧ f d = some y else M3 = M' ∧ f d = none)
    (q : fin (ds.filterMap f) M) : LcX B X scope own t ifs elt G ds M fun L acc M' => fin acc (mdel M' L) := by
  intro L hL
  refine ⟨fun i acc M' => acc = (ds.take i).filterMap f ∧ M' = mupd M L (.lst acc), ⟨rfl, rfl⟩, ?_, ?_⟩
  · rintro i d acc M' hd ⟨ea, eM⟩ hM
    have hle : ∀ a o, M a = some o → M' a = some o := fun a o e => by rw [eM, mupd_ne (mne e hL)]; exact e
    have tk : (ds.take (i + 1)).filterMap f = (ds.take i).filterMap f ++ (f d).toList := by
      rw [List.take_add_one, hd, List.filterMap_append]
      cases e : f d <;> simp [e]
    have ln : acc.length < sizeLine := by
      have h1 : ((ds.take i).filterMap f).length ≤ (ds.take i).length := List.length_filterMap_le f _
      have h2 : (ds.take i).length ≤ ds.length := by rw [List.length_take]; omega
      rw [ea]; omega
    have step : ∀ dvs, (Bk X scope fun X' => TXs B X' ifs (gsetAll (gwipe G own) t.slots dvs) M' fun b M3 =>
        if b = true then Bk X scope fun X2 => EX B X2 elt (gsetAll (gwipe G own) t.slots dvs) M3 fun y M4 => M4 = M' ∧ f d = some y else M3 = M' ∧ f d = none) →
        Bk X scope fun X' => TXs B X' ifs (gsetAll (gwipe G own) t.slots dvs) M' fun b M3 =>
          if b = true then Bk X scope fun X2 => EX B X2 elt (gsetAll (gwipe G own) t.slots dvs) M3 fun y M4 => M4 L = some (.lst acc) ∧ acc.length < sizeLine ∧ (acc ++ [y] = (ds.take (i + 1)).filterMap f ∧ mupd M4 L (.lst (acc ++ [y])) = mupd M L (.lst (acc ++ [y])))
          else M3 L = some (.lst acc) ∧ (acc = (ds.take (i + 1)).filterMap f ∧ M3 = mupd M L (.lst acc)) := by
      intro dvs hb s0 H0 C cl fp
      have post : ∀ (b : Bool) (M3 : Mem), (if b = true then Bk X scope fun X2 => EX B X2 elt (gsetAll (gwipe G own) t.slots dvs) M3 fun y M4 => M4 = M' ∧ f d = some y else M3 = M' ∧ f d = none) →
          if b = true then Bk X scope fun X2 => EX B X2 elt (gsetAll (gwipe G own) t.slots dvs) M3 fun y M4 => M4 L = some (.lst acc) ∧ acc.length < sizeLine ∧ (acc ++ [y] = (ds.take (i + 1)).filterMap f ∧ mupd M4 L (.lst (acc ++ [y])) = mupd M L (.lst (acc ++ [y])))
          else M3 L = some (.lst acc) ∧ (acc = (ds.take (i + 1)).filterMap f ∧ M3 = mupd M L (.lst acc)) := fun b M3 z =>
        ite_mono z (fun z s1 H1 C1 cl1 fp1 => (z s1 H1 C1 cl1 fp1).imp fun y M4 ⟨e4, ef⟩ => by
          subst e4
          refine ⟨hM, ln, ?_, ?_⟩
          · rw [tk, ef, ← ea]; rfl
          · rw [eM, mupd_mupd]) fun ⟨e3, ef⟩ => by
          subst e3
          refine ⟨hM, ?_, eM⟩
          rw [tk, ef, ← ea]; simp
      have z := hb s0 H0 C cl fp
      match ifs, z with
      | [], z => exact post true M' z
      | [c], z => exact TX.imp z post
    have hh := h i d M' hd hle
    cases t with
    | inl j => exact step [d] hh
    | inr js =>
      obtain ⟨dvs, e, hl', hb⟩ := hh
      exact ⟨dvs, e, hl', step dvs hb⟩
  · rintro acc M' ⟨ea, eM⟩ hM
    rw [List.take_length] at ea
    rw [eM, mdel_mupd hL, ea]
    exact q
end
end FL

namespace FL
open PySem PySem.Spec PyProof.Rows L2

/-- a promise over data: arguments, cells, what is wanted of the answer and the cells -/
abbrev DSp := List D → Mem → (D → Mem → Prop) → Prop
def lift (K : PySem.W.Frag) (sp : DSp) : Sp := fun vs H Q _ => ∃ F ds M Qd, RpAll K F vs ds ∧ Same F H ∧ MemOk K F H M ∧ sp ds M Qd ∧ ∀ d M', Qd d M' → ∀ v H' F', Same F F' → Kp M H M' H' → Same F' H' → MemOk K F' H' M' → Rp K F' v d → Q v H'
/-- a def of the module, by its name -/
structure Dfn (P : Program) (w : World) (K : PySem.W.Frag) (mg : Str → Option Value) (base : Heap) (k : Nat) (x : Str) (sp : DSp) : Prop where
  ex : ∃ (f : Addr) (fd : FuncData) (ps : List Str), FnOk P w K mg base CX0 k f fd ps (lift K sp) ∧ mg x = some (.ref f) ∧ PySem.W.keepIn K (.ref f) = true ∧ Binds K fd ps []
section
variable {B : Bs} {X : Cx} {a b c e o tg iter elt : Expr} {es : List Expr} {G G' : Sl} {M M' : Mem} {Q : D → Mem → Prop} {E : En} {pos p pos' apos : Pos} {F F1 : Hp} {σ : L2.St} {k : Nat} {x m : Str} {sp : DSp}
theorem lift_use {H1 : Hp} {vs : List V} {ds : List D} {Q' : VK} {E0' : XK} (r1 : R B X.K F1 σ H1 G M) (p1 : RpAll X.K F1 vs ds) (q : sp ds M Q) (kk : KE B X F1 σ G Q Q') : lift X.K sp vs H1 Q' E0' :=
  ⟨F1, ds, M, Q, p1, r1.ex, r1.mem, q, fun d M' qd v H' F' s' k' e' m' rp => kk v H' F' d M' qd s' ⟨r1.slots.mono s', e', m', r1.bf.trans s', r1.bk.trans k'⟩ rp⟩
theorem ex_call (c : Dfn X.prog X.w X.K X.mg X.base k x sp) (hr : Room k X.A) (hg : Gl X x) (hdb : (x == ("__debug__" : Str)) = false)
    (he : starEach (e :: es) X.env = (false, eval e X.env) :: starEach es X.env) (hpl : (backTo pos (starEach es X.env)).any (·.1) = false)
    (h : AX B X (e :: es) G M fun ds M1 => sp ds M1 Q) : EX B X (.Call (.Name x p) (e :: es) [] pos) G M Q := fun F σ H Q' r kk => by
  obtain ⟨f, fd, ps, Fo, mgx, kp, bd⟩ := c.ex
  refine WE.of (pe_call Fo hr hg mgx kp bd .nil pass0 pa_wa hdb he hpl) (h F σ H _ r fun vs H1 F1 ds M1 q1 s1 r1 p1 => ?_)
  rw [List.append_nil]
  exact lift_use r1 p1 q1 (kk.mono s1)
theorem ex_call0 (c : Dfn X.prog X.w X.K X.mg X.base k x sp) (hr : Room k X.A) (hg : Gl X x) (hdb : (x == ("__debug__" : Str)) = false)
    (h : sp [] M Q) : EX B X (.Call (.Name x p) [] [] pos) G M Q := fun F σ H Q' r kk => by
  obtain ⟨f, fd, ps, Fo, mgx, kp, bd⟩ := c.ex
  exact WE.of (pe_call0 Fo hr hg mgx kp bd .nil pass0 hdb) (lift_use (vs := [] ++ []) (E0' := E0) r .nil h kk)

/-! ### a def's body -/
def startD (N : List Str) (ds : List D) : Sl := ds.map some ++ List.replicate (N.length - ds.length) none
theorem start_ok {K : PySem.W.Frag} {N : List Str} {vs : List V} {ds : List D} (h : RpAll K F vs ds) : SlotsOk K F (L2.start N vs) (startD N ds) := by
  refine ⟨by unfold L2.start startD; simp [h.length], fun i d q => ?_⟩
  unfold startD at q
  unfold L2.start
  by_cases hi : i < ds.length
  · rw [List.getElem?_append_left (by simpa using hi), List.getElem?_map] at q
    rw [List.getElem?_append_left (by simpa [h.length] using hi), List.getElem?_map]
    cases e : ds[i]? with
    | none => rw [e] at q; cases q
    | some d' =>
      rw [e] at q
      have e2 : d' = d := by simpa using q
      subst e2
      obtain ⟨v, hv, rv⟩ := h.get e
      exact ⟨v, by rw [hv]; rfl, rv⟩
  · rw [List.getElem?_append_right (by simpa using hi)] at q
    rw [List.getElem?_replicate] at q
    split at q <;> cases q
theorem fun_ok {P : Program} {w : World} {K : PySem.W.Frag} {mg : Str → Option Value} {base : Heap} {x qual : Str} {st : Stmt} {f : Addr} {fd : FuncData} {N ps : List Str} {k : Nat} {sp : DSp} (Fn : Fun K x qual st f fd) (S : FnScope N ps (defScope st))
    (len : ∀ ds M Q, sp ds M Q → ds.length = ps.length)
    (body : ∀ (cdv : Value) (A : Around) (outer : List Env) (s : Shared) (H : Hp) (E : XK), Room k (A.deeper (envOfC qual (defScope st) s.heap.objs.size f cdv)) → ∀ ds M Q, sp ds M Q → ∀ B : Bs,
      SXs B (cxOf CX0 P w K mg base N qual (defScope st) f cdv A outer s H E).nox (defBody st) (En.df Q) (startD N ds) M) : FnOk P w K mg base CX0 (k + 1) f fd ps (lift K sp) := by
  refine Fn.ok S (fun vs H Q E ⟨F, ds, M, Qd, p, _, _, h, _⟩ => by rw [p.length]; exact len ds M Qd h) fun cdv A outer s H vs Q E hr ⟨F, ds, M, Qd, p, ex, me, h, kk⟩ => ?_
  refine ⟨_, pss_wss, body cdv A outer s H E hr ds M Qd h ⟨F, M, H⟩ F _ H _ ⟨start_ok p, ex, me, Same.refl F, Kp.refl M H⟩ ⟨?_, ?_, ?_, ?_⟩⟩
  · exact fun σ' H' F' G' M' q s' r' => kk .non M' q .non H' F' s' r'.bk r'.ex r'.mem .non
  · exact fun v H' F' d M' q s' ⟨_, _, r'⟩ rp => kk d M' q v H' F' s' r'.bk r'.ex r'.mem rp
  · exact fun _ _ _ _ _ q => False.elim q
  · exact fun _ _ _ _ _ q => False.elim q

/-! ### built-ins by name -/
/-- a built-in function or class, by its name -/
structure Blt (X : Cx) (x : Str) (f : Value) : Prop where
  g : Gl X x
  m : X.mg x = none
  v : bootBuiltins x = some f
  n : x ≠ "__name__"
  d : (x == ("__debug__" : Str)) = false
theorem ex_callB {id : String} (c : Blt X x (.builtin id)) (he : starEach (e :: es) X.env = (false, eval e X.env) :: starEach es X.env) (hpl : (backTo pos (starEach es X.env)).any (·.1) = false)
    (h : AX B X (e :: es) G M fun ds M1 => BX B X (.builtin id) ds G M1 Q) : EX B X (.Call (.Name x p) (e :: es) [] pos) G M Q := fun F σ H Q' r kk =>
  WE.of (pe_callB call_wc c.g c.m c.v pa_wa c.n c.d he hpl) (h F σ H _ r fun vs H1 F1 ds M1 q1 s1 r1 p1 => q1 F1 σ H1 Q' vs r1 p1 (kk.mono s1))
theorem ex_callTy {T : String} (c : Blt X x (.type T)) (he : starEach (e :: es) X.env = (false, eval e X.env) :: starEach es X.env) (hpl : (backTo pos (starEach es X.env)).any (·.1) = false)
    (h : AX B X (e :: es) G M fun ds M1 => BX B X (.type T) ds G M1 Q) : EX B X (.Call (.Name x p) (e :: es) [] pos) G M Q := fun F σ H Q' r kk =>
  WE.of (pe_callTy call_wc c.g c.m c.v pa_wa c.n c.d he hpl) (h F σ H _ r fun vs H1 F1 ds M1 q1 s1 r1 p1 => q1 F1 σ H1 Q' vs r1 p1 (kk.mono s1))
/-- a built-in as a value -/
theorem ex_ty {T : String} (c : Blt X x (.type T)) (q : Q (.ty T) M) : EX B X (.Name x pos) G M Q := fun F σ H Q' r kk =>
  WE.of (pe_bltn c.g c.m c.v (v := .ty T) rfl c.n c.d) (kk.at r q (.ty T))
theorem rp1 {K : PySem.W.Frag} {vs : List V} {d : D} (h : RpAll K F vs [d]) : ∃ v, vs = [v] ∧ Rp K F v d := by
  cases h with
  | cons p t => cases t; exact ⟨_, rfl, p⟩
theorem rp2 {K : PySem.W.Frag} {vs : List V} {d d2 : D} (h : RpAll K F vs [d, d2]) : ∃ v v2, vs = [v, v2] ∧ Rp K F v d ∧ Rp K F v2 d2 := by
  cases h with
  | cons p t =>
    obtain ⟨v, e, q⟩ := rp1 t
    subst e
    exact ⟨_, v, rfl, p, q⟩
theorem bx_lenL {ds : List D} (q : Q (.int (ds.length : Nat)) M) : BX B X (.builtin "len") [.lst ds] G M Q := fun F σ H Q' vs r pa kk => by
  obtain ⟨v, rfl, rp⟩ := rp1 pa
  cases rp with
  | @lst a xs _ hs rs => exact WC.of call_len_seq ⟨a, xs, rfl, .inl (SqL.of (r.ex _ _ hs)), by rw [rs.length]; exact kk.at r q (.int _)⟩
theorem bx_lenF {ds : List D} (q : Q (.int (ds.length : Nat)) M) : BX B X (.builtin "len") [.fzl ds] G M Q := fun F σ H Q' vs r pa kk => by
  obtain ⟨v, rfl, rp⟩ := rp1 pa
  cases rp with
  | @fzl a xs _ hs rs => exact WC.of call_len_seq ⟨a, xs, rfl, .inl (r.ex.seq hs), by rw [rs.length]; exact kk.at r q (.int _)⟩
theorem bx_lenT {ds : List D} (q : Q (.int (ds.length : Nat)) M) : BX B X (.builtin "len") [.tup ds] G M Q := fun F σ H Q' vs r pa kk => by
  obtain ⟨v, rfl, rp⟩ := rp1 pa
  cases rp with
  | @tup a xs _ hs rs => exact WC.of call_len_seq ⟨a, xs, rfl, .inr (sq_same r.ex hs), by rw [rs.length]; exact kk.at r q (.int _)⟩
theorem bx_lenC {l : Addr} {ds : List D} (hm : M l = some (.lst ds)) (q : Q (.int (ds.length : Nat)) M) : BX B X (.builtin "len") [.ref l] G M Q := fun F σ H Q' vs r pa kk => by
  obtain ⟨v, rfl, rp⟩ := rp1 pa
  cases rp
  obtain ⟨_, xs, hx, rx⟩ := r.mem l _ hm
  exact WC.of call_len_seq ⟨l, xs, rfl, .inl (.inl (.inl hx)), by rw [rx.length]; exact kk.at r q (.int _)⟩
theorem bx_lenS {z : Str} (hl : z.length ≤ sizeLine) (q : Q (.int (z.length : Nat)) M) : BX B X (.builtin "len") [.str z] G M Q := fun F σ H Q' vs r pa kk => by
  obtain ⟨v, rfl, rp⟩ := rp1 pa
  cases rp
  exact WC.of call_len_str ⟨z, rfl, hl, kk.at r q (.int _)⟩
/-- the built-in type of data -/
def D.tyN : D → String
  | .non => "NoneType" | .bl _ => "bool" | .int _ => "int" | .str _ => "str" | .tup _ => "tuple" | .lst _ => "list" | .dK _ => "dict" | .dT _ => "dict" | .ty _ => "type" | .ref _ => "object" | .fzl _ => "list"
def D.tyd : D → Bool
  | .ty _ => false | .ref _ => false | .fzl _ => false | _ => true
theorem Rp.tyx {K : PySem.W.Frag} {F H : Hp} {v : V} {d : D} (e : Same F H) (r : Rp K F v d) (h : d.tyd = true) : TyX K H v (.type d.tyN) := by
  cases r with
  | non => exact .base .non
  | bl b => exact .base (.bl b)
  | int i => exact .base (.int i)
  | str x => exact .base (.str x)
  | ref a => cases h
  | ty n => cases h
  | tup hs _ =>
    rcases hs with (hs | ⟨ob, hs⟩) | ⟨ob, _, _, hk, hc, _⟩
    · exact .base (.tup (e _ _ hs))
    · exact .fTuple (e _ _ hs)
    · exact .kTuple hk hc
  | lst hs _ => exact .base (.lst (e _ _ hs))
  | fzl _ _ => cases h
  | dK hs _ => exact .base (.dK (e _ _ hs))
  | dT hs _ => exact .base (.dT (e _ _ hs))
theorem bx_isi {d : D} {T : String} {b : Bool} (hd : d.tyd = true) (hk : kitB d.tyN T = some b) (q : Q (.bl b) M) : BX B X (.builtin "isinstance") [d, .ty T] G M Q := fun F σ H Q' vs r pa kk => by
  obtain ⟨v, v2, rfl, rp, r2⟩ := rp2 pa
  cases r2
  exact WC.of call_isi ⟨v, .ty T, _, _, b, rfl, .ty T, rp.tyx r.ex hd, kit_ty hk, kk.at r q (.bl b)⟩
/-- the classes of a tuple -/
def tyNs : List D → Option (List String)
  | [] => some []
  | .ty T :: r => (tyNs r).map (T :: ·)
  | _ => none
def kitBs (a : String) : List String → Option Bool
  | [] => some false
  | T :: r => match kitB a T with
    | some true => some true
    | some false => kitBs a r
    | none => none
theorem tyNs_cls {K : PySem.W.Frag} : ∀ {ds : List D} {vs : List V} {Ts : List String}, tyNs ds = some Ts → RpAll K F vs ds → Paired ClsV vs (Ts.map Value.type)
  | [], _, Ts, h, p => by cases p; cases h; exact .nil
  | .ty T :: ds, _, Ts, h, .cons p r => by
    cases p
    unfold tyNs at h
    cases e : tyNs ds with
    | none => rw [e] at h; cases h
    | some Us =>
      rw [e] at h
      cases h
      exact .cons (.ty T) (tyNs_cls e r)
theorem kitBs_any {K : PySem.W.Frag} {a : String} {b : Bool} : ∀ {Ts : List String}, kitBs a Ts = some b → PySem.W.kitAny K (.type a) (Ts.map Value.type) = some b
  | [], h => by cases h; exact kitAny_nil
  | T :: Ts, h => by
    unfold kitBs at h
    split at h
    · rename_i e
      cases h
      exact kitAny_cons (kit_ty e) (fun z => nomatch z) (fun _ => rfl)
    · rename_i e
      exact kitAny_cons (kit_ty e) (fun _ => kitBs_any h) (fun z => nomatch z)
    · cases h
theorem call_isiS : CallR X (.builtin "isinstance") (fun xs H Q => ∃ (x : V) (tp : Addr) (cs : List V) (t : Value) (us : List Value) (b : Bool), xs = [x, .ref tp] ∧ SqT X.K H tp cs ∧ Paired ClsV cs us ∧ TyX X.K H x t ∧ PySem.W.kitAny X.K t us = some b ∧ Q (.bl b) H) := by
  intro pins s σ H xs us Q I r h
  obtain ⟨x, tp, cs, t, ws, b, rfl, hT, k, ty, e, q⟩ := h
  obtain ⟨u1, u2, rfl, r1, r2⟩ := vals2 r
  cases (show u2 = Value.ref tp from r2)
  obtain ⟨P, Z, p, hx⟩ := kit_of I r1 ty
  obtain ⟨its, rv, ⟨o, h1, h2, n, h3⟩, _⟩ := I.tuple hT
  have e3 := ClsV.all k rv
  subst e3
  obtain ⟨oc, od, dt, sl⟩ := o
  simp only at h2 h3
  subst h2 h3
  exact PySem.W.kia_tup Z I.kIn p h1 e hx fun tk => ⟨.bl b, H, I.tok tk, rfl, q⟩
theorem bx_isiT {d : D} {ts : List D} {Ts : List String} {b : Bool} (hd : d.tyd = true) (ht : tyNs ts = some Ts) (hk : kitBs d.tyN Ts = some b) (q : Q (.bl b) M) : BX B X (.builtin "isinstance") [d, .tup ts] G M Q := fun F σ H Q' vs r pa kk => by
  obtain ⟨v, v2, rfl, rp, r2⟩ := rp2 pa
  cases r2 with
  | @tup a xs _ hs rs => exact WC.of call_isiS ⟨v, a, xs, _, _, b, rfl, sq_same r.ex hs, tyNs_cls ht rs, rp.tyx r.ex hd, kitBs_any hk, kk.at r q (.bl b)⟩
end
end FL

namespace FL
open PySem PySem.Spec PyProof.Rows L2
def atB (N : List Str) (sc : Scope) (i : Nat) (x : Str) : Bool := decide (N[i]? = some x) && ((match sc.names.lookup x with | some .local => true | some .cell => true | _ => false) && (!(x == ("__debug__" : Str)) && !(x == ("__classdict__" : Str))))
section
variable {X : Cx} {N : List Str} {sc : Scope} {i : Nat} {x : Str}
theorem atB_parts (h : atB N sc i x = true) : N[i]? = some x ∧ (sc.names.lookup x = some .local ∨ sc.names.lookup x = some .cell) ∧ (x == ("__debug__" : Str)) = false ∧ (x == ("__classdict__" : Str)) = false := by
  unfold atB at h
  obtain ⟨h1, h⟩ := Bool.and_eq_true_iff.mp h
  obtain ⟨h2, h⟩ := Bool.and_eq_true_iff.mp h
  obtain ⟨h3, h4⟩ := Bool.and_eq_true_iff.mp h
  refine ⟨of_decide_eq_true h1, ?_, by simpa using h3, by simpa using h4⟩
  split at h2
  · left; assumption
  · right; assumption
  · cases h2
theorem At.of (hN : X.N = N) (hs : X.env.scope = sc) (h : atB N sc i x = true) : At X i x := by
  obtain ⟨h1, h2, h3, h4⟩ := atB_parts h
  refine ⟨by rw [hN]; exact h1, ?_, h3, h4⟩
  rw [hs]
  rcases h2 with h2 | h2
  · exact .inl h2
  · exact .inr (.inl h2)
theorem Lc.of (nd : N.Nodup) (hN : X.N = N) (hs : X.env.scope = sc) (hf : X.fn x = true ∨ X.env.scope.names.lookup x = some .local) (h : atB N sc i x = true) : Lc X i x := by
  obtain ⟨h1, h2, h3, h4⟩ := atB_parts h
  refine ⟨by rw [hN]; exact nd, by rw [hN]; exact h1, ?_, hf⟩
  rw [hs]
  exact h2
theorem At.b (hN : X.N[i]? = some x) (hv : Vis X.env.scope x) (hd : (x == ("__debug__" : Str)) = false := by decide) (hc : (x == ("__classdict__" : Str)) = false := by decide) : At X i x := ⟨hN, hv, hd, hc⟩
theorem Gb.of {d : D} {u : Value} {v : V} (g : Gl X x) (m : X.mg x = some u) (r : RelV v u) (h : ∀ F, Rp X.K F v d) (hd : (x == ("__debug__" : Str)) = false := by decide) : Gb X x d := ⟨g, ⟨u, v, m, r, h⟩, hd⟩
end
/-- a constant of the module -/
def Cst (K : PySem.W.Frag) (mg : Str → Option Value) (x : Str) (d : D) : Prop := ∃ u v, mg x = some u ∧ RelV v u ∧ ∀ F, Rp K F v d
theorem Gb.ofC {X : Cx} {x : Str} {d : D} (g : Gl X x) (h : Cst X.K X.mg x d) (hd : (x == ("__debug__" : Str)) = false := by decide) : Gb X x d := ⟨g, h, hd⟩
theorem Blt.blk {X : Cx} {x : Str} {f : Value} {s : Shared} {H : Hp} {scope : Scope} {cenv : Env} {fp : List Addr} (h : Blt X x f) (g : Gl (X.blk s H scope cenv fp) x) : Blt (X.blk s H scope cenv fp) x f := ⟨g, h.m, h.v, h.n, h.d⟩
theorem Gb.blk {X : Cx} {x : Str} {d : D} {s : Shared} {H : Hp} {scope : Scope} {cenv : Env} {fp : List Addr} (h : Gb X x d) (g : Gl (X.blk s H scope cenv fp) x) : Gb (X.blk s H scope cenv fp) x d := ⟨g, h.m, h.d⟩
theorem ite_dec {p A B : Prop} [Decidable p] (h1 : p → A) (h2 : ¬ p → B) : if decide p = true then A else B := by
  by_cases h : p
  · rw [decide_eq_true h]; exact iteT (h1 h)
  · rw [decide_eq_false h]; exact iteF (h2 h)
theorem ite_ndec {p A B : Prop} [Decidable p] (h1 : ¬ p → A) (h2 : p → B) : if (!decide p) = true then A else B := by
  by_cases h : p
  · rw [decide_eq_true h]; exact iteF (h2 h)
  · rw [decide_eq_false h]; exact iteT (h1 h)
theorem ite_b {b : Bool} {A B : Prop} (h1 : b = true → A) (h2 : b = false → B) : if b = true then A else B := by
  cases b with
  | true => exact iteT (h1 rfl)
  | false => exact iteF (h2 rfl)
theorem ite_nb {b : Bool} {A B : Prop} (h1 : b = false → A) (h2 : b = true → B) : if (!b) = true then A else B := by
  cases b with
  | true => exact iteF (h2 rfl)
  | false => exact iteT (h1 rfl)
theorem iteT' {c : Bool} {A B : Prop} (e : c = true) (h : A) : if c = true then A else B := by rw [if_pos e]; exact h
theorem iteF' {c : Bool} {A B : Prop} (e : c = false) (h : B) : if c = true then A else B := by rw [e]; exact iteF h
theorem asB_bl {Q : Bool → Mem → Prop} {b : Bool} {M : Mem} (h : Q b M) : AsB Q (.bl b) M := h
theorem ixN_nat {n j : Nat} (h : j < n) : ixN n (j : Int) = some j := by
  unfold ixN
  rw [if_pos (by omega), if_pos (by omega)]
  rfl
theorem atI_of {ds : List D} {i : Int} {j : Nat} {d : D} (e : i = (j : Int)) (h : ds[j]? = some d) : atI ds i = some d := by rw [e]; exact atI_nat h
end FL

namespace FL
open PySem PySem.Spec PyProof.Rows L2
section
variable {B : Bs} {X : Cx} {a b c e o tg iter elt : Expr} {es : List Expr} {G G' : Sl} {M M' : Mem} {Q : D → Mem → Prop} {E : En} {pos p pos' apos : Pos} {F F1 : Hp} {σ : L2.St} {k : Nat} {x y : Str} {i : Int}

/-! ### flat data -/
def D.toV : D → V
  | .bl b => .bl b | .int i => .int i | .str x => .str x | _ => .non
def D.flat : D → Bool
  | .non => true | .bl _ => true | .int _ => true | .str _ => true | _ => false
theorem Rp.flat {K : PySem.W.Frag} {v : V} {d : D} (r : Rp K F v d) (h : d.flat = true) : v = d.toV ∧ flatV d.toV = true := by
  cases r <;> first | exact ⟨rfl, rfl⟩ | cases h
theorem RpAll.flat {K : PySem.W.Frag} : ∀ {vs : List V} {ds : List D}, RpAll K F vs ds → ds.all D.flat = true → vs = ds.map D.toV ∧ (ds.map D.toV).all flatV = true
  | _, _, .nil, _ => ⟨rfl, rfl⟩
  | _, _, .cons r t, h => by
    obtain ⟨h1, h2⟩ := Bool.and_eq_true_iff.mp (show (_ && _) = true from h)
    obtain ⟨e1, f1⟩ := r.flat h1
    obtain ⟨e2, f2⟩ := RpAll.flat t h2
    refine ⟨by rw [e1, e2]; rfl, ?_⟩
    show (_ && _) = true
    rw [f1]; exact f2
def inD (d : D) (ds : List D) : Bool := inV d.toV (ds.map D.toV)
theorem in_core {neg : Bool} {op : CmpOp} {d : D} {ds : List D} {v : V} {pa : Addr} {H : Hp} {Q' : VK} (ho : OpR X (compareOp op) (rIn X.K neg)) (r : R B X.K F σ H G M) (p1 : Rp X.K F v d) (hf : d.flat = true) (ha : ds.all D.flat = true) (xs : List V) (hs : SqL X.K H pa xs ∨ SqT X.K H pa xs) (rs : RpAll X.K F xs ds)
    (q : Q (.bl (if neg then !inD d ds else inD d ds)) M) (kk : KE B X F σ G Q Q') : WO X (compareOp op) v (.ref pa) H Q' := by
  obtain ⟨e1, f1⟩ := p1.flat hf
  obtain ⟨e2, f2⟩ := rs.flat ha
  subst e1; subst e2
  exact WO.of ho ⟨pa, _, rfl, hs, f1, f2, kk.at r q (.bl _)⟩
theorem ox_inT {d : D} {ds : List D} (hf : d.flat = true) (ha : ds.all D.flat = true) (q : Q (.bl (inD d ds)) M) : OX B X (compareOp .In) d (.tup ds) G M Q := fun F σ H Q' v w r p1 p2 kk => by
  cases p2 with
  | @tup a xs _ hs rs => exact in_core op_in_seq r p1 hf ha xs (.inr (sq_same r.ex hs)) rs q kk
theorem ox_inL {d : D} {ds : List D} (hf : d.flat = true) (ha : ds.all D.flat = true) (q : Q (.bl (inD d ds)) M) : OX B X (compareOp .In) d (.lst ds) G M Q := fun F σ H Q' v w r p1 p2 kk => by
  cases p2 with
  | @lst a xs _ hs rs => exact in_core op_in_seq r p1 hf ha xs (.inl (SqL.of (r.ex _ _ hs))) rs q kk
theorem ox_notInT {d : D} {ds : List D} (hf : d.flat = true) (ha : ds.all D.flat = true) (q : Q (.bl (!inD d ds)) M) : OX B X (compareOp .NotIn) d (.tup ds) G M Q := fun F σ H Q' v w r p1 p2 kk => by
  cases p2 with
  | @tup a xs _ hs rs => exact in_core op_notIn_seq r p1 hf ha xs (.inr (sq_same r.ex hs)) rs q kk
theorem ox_notInL {d : D} {ds : List D} (hf : d.flat = true) (ha : ds.all D.flat = true) (q : Q (.bl (!inD d ds)) M) : OX B X (compareOp .NotIn) d (.lst ds) G M Q := fun F σ H Q' v w r p1 p2 kk => by
  cases p2 with
  | @lst a xs _ hs rs => exact in_core op_notIn_seq r p1 hf ha xs (.inl (SqL.of (r.ex _ _ hs))) rs q kk
theorem ox_inC {d : D} {l : Addr} {ds : List D} (hm : M l = some (.lst ds)) (hf : d.flat = true) (ha : ds.all D.flat = true) (q : Q (.bl (inD d ds)) M) : OX B X (compareOp .In) d (.ref l) G M Q := fun F σ H Q' v w r p1 p2 kk => by
  cases p2
  obtain ⟨_, xs, hx, rx⟩ := r.mem l _ hm
  exact in_core op_in_seq r p1 hf ha xs (.inl (.inl (.inl hx))) rx q kk
theorem ox_notInC {d : D} {l : Addr} {ds : List D} (hm : M l = some (.lst ds)) (hf : d.flat = true) (ha : ds.all D.flat = true) (q : Q (.bl (!inD d ds)) M) : OX B X (compareOp .NotIn) d (.ref l) G M Q := fun F σ H Q' v w r p1 p2 kk => by
  cases p2
  obtain ⟨_, xs, hx, rx⟩ := r.mem l _ hm
  exact in_core op_notIn_seq r p1 hf ha xs (.inl (.inl (.inl hx))) rx q kk
theorem str_beq_iff {x y : Str} : (x == y) = decide (x = y) := Bool.beq_eq_decide_eq x y
theorem inD_str : ∀ {xs : List Str}, inD (.str x) (xs.map D.str) = decide (x ∈ xs)
  | [] => by simp [inD, inV]
  | y :: ys => by
    have ih : inD (.str x) (ys.map D.str) = decide (x ∈ ys) := inD_str
    have e : inD (.str x) ((y :: ys).map D.str) = ((y == x) || inD (.str x) (ys.map D.str)) := rfl
    rw [e, ih, str_beq_iff]
    by_cases h : y = x
    · subst h; simp
    · have h' : ¬ x = y := fun z => h z.symm
      simp [h, h']
theorem inD_int {n : Int} : ∀ {xs : List Int}, inD (.int n) (xs.map D.int) = decide (n ∈ xs)
  | [] => by simp [inD, inV]
  | y :: ys => by
    have ih : inD (.int n) (ys.map D.int) = decide (n ∈ ys) := inD_int
    have e : inD (.int n) ((y :: ys).map D.int) = ((y == n) || inD (.int n) (ys.map D.int)) := rfl
    rw [e, ih, Bool.beq_eq_decide_eq]
    by_cases h : y = n
    · subst h; simp
    · have h' : ¬ n = y := fun z => h z.symm
      simp [h, h']
theorem flat_strs {xs : List Str} : (xs.map D.str).all D.flat = true := by simp [D.flat]
theorem flat_ints {xs : List Int} : (xs.map D.int).all D.flat = true := by simp [D.flat]
/-- one sign in a text -/
theorem ox_inS {n : Nat} (q : Q (.bl (decide (n ∈ x.cps.toList))) M) : OX B X (compareOp .In) (.str ⟨#[n]⟩) (.str x) G M Q := fun F σ H Q' v w r p1 p2 kk => by
  cases p1; cases p2; exact WO.of op_in_sign ⟨n, x, rfl, rfl, kk.at r q (.bl _)⟩
theorem ox_notInS {n : Nat} (q : Q (.bl (!decide (n ∈ x.cps.toList))) M) : OX B X (compareOp .NotIn) (.str ⟨#[n]⟩) (.str x) G M Q := fun F σ H Q' v w r p1 p2 kk => by
  cases p1; cases p2; exact WO.of op_notIn_sign ⟨n, x, rfl, rfl, kk.at r q (.bl _)⟩

/-! ### built-in names -/
theorem bb_len : bootBuiltins "len" = some (.builtin "len") := by decide +kernel
theorem bb_isinstance : bootBuiltins "isinstance" = some (.builtin "isinstance") := by decide +kernel
theorem bb_max : bootBuiltins "max" = some (.builtin "max") := by decide +kernel
theorem bb_min : bootBuiltins "min" = some (.builtin "min") := by decide +kernel
theorem bb_sorted : bootBuiltins "sorted" = some (.builtin "sorted") := by decide +kernel
theorem bb_int : bootBuiltins "int" = some (.type "int") := by decide +kernel
theorem bb_bool : bootBuiltins "bool" = some (.type "bool") := by decide +kernel
theorem bb_str : bootBuiltins "str" = some (.type "str") := by decide +kernel
theorem bb_tuple : bootBuiltins "tuple" = some (.type "tuple") := by decide +kernel
theorem bb_list : bootBuiltins "list" = some (.type "list") := by decide +kernel
theorem bb_dict : bootBuiltins "dict" = some (.type "dict") := by decide +kernel
theorem bb_set : bootBuiltins "set" = some (.type "set") := by decide +kernel
theorem bb_enumerate : bootBuiltins "enumerate" = some (.type "enumerate") := by decide +kernel
theorem bb_range : bootBuiltins "range" = some (.type "range") := by decide +kernel
/-! ### isinstance -/
def D.isI : D → Bool
  | .int _ => true | .bl _ => true | _ => false
def D.isB : D → Bool
  | .bl _ => true | _ => false
def D.isS : D → Bool
  | .str _ => true | _ => false
def D.isT : D → Bool
  | .tup _ => true | _ => false
def D.isL : D → Bool
  | .lst _ => true | _ => false
theorem kitI {d : D} (hd : d.tyd = true) : kitB d.tyN "int" = some d.isI := by
  cases d with
  | non => exact (by decide +kernel : kitB "NoneType" "int" = some false)
  | bl => exact (by decide +kernel : kitB "bool" "int" = some true)
  | int => exact (by decide +kernel : kitB "int" "int" = some true)
  | str => exact (by decide +kernel : kitB "str" "int" = some false)
  | tup => exact (by decide +kernel : kitB "tuple" "int" = some false)
  | lst => exact (by decide +kernel : kitB "list" "int" = some false)
  | dK => exact (by decide +kernel : kitB "dict" "int" = some false)
  | dT => exact (by decide +kernel : kitB "dict" "int" = some false)
  | ref _ => cases hd
  | fzl _ => cases hd
  | ty _ => cases hd
theorem kitBo {d : D} (hd : d.tyd = true) : kitB d.tyN "bool" = some d.isB := by
  cases d with
  | non => exact (by decide +kernel : kitB "NoneType" "bool" = some false)
  | bl => exact (by decide +kernel : kitB "bool" "bool" = some true)
  | int => exact (by decide +kernel : kitB "int" "bool" = some false)
  | str => exact (by decide +kernel : kitB "str" "bool" = some false)
  | tup => exact (by decide +kernel : kitB "tuple" "bool" = some false)
  | lst => exact (by decide +kernel : kitB "list" "bool" = some false)
  | dK => exact (by decide +kernel : kitB "dict" "bool" = some false)
  | dT => exact (by decide +kernel : kitB "dict" "bool" = some false)
  | ref _ => cases hd
  | fzl _ => cases hd
  | ty _ => cases hd
theorem kitS {d : D} (hd : d.tyd = true) : kitB d.tyN "str" = some d.isS := by
  cases d with
  | non => exact (by decide +kernel : kitB "NoneType" "str" = some false)
  | bl => exact (by decide +kernel : kitB "bool" "str" = some false)
  | int => exact (by decide +kernel : kitB "int" "str" = some false)
  | str => exact (by decide +kernel : kitB "str" "str" = some true)
  | tup => exact (by decide +kernel : kitB "tuple" "str" = some false)
  | lst => exact (by decide +kernel : kitB "list" "str" = some false)
  | dK => exact (by decide +kernel : kitB "dict" "str" = some false)
  | dT => exact (by decide +kernel : kitB "dict" "str" = some false)
  | ref _ => cases hd
  | fzl _ => cases hd
  | ty _ => cases hd
theorem kitT {d : D} (hd : d.tyd = true) : kitB d.tyN "tuple" = some d.isT := by
  cases d with
  | non => exact (by decide +kernel : kitB "NoneType" "tuple" = some false)
  | bl => exact (by decide +kernel : kitB "bool" "tuple" = some false)
  | int => exact (by decide +kernel : kitB "int" "tuple" = some false)
  | str => exact (by decide +kernel : kitB "str" "tuple" = some false)
  | tup => exact (by decide +kernel : kitB "tuple" "tuple" = some true)
  | lst => exact (by decide +kernel : kitB "list" "tuple" = some false)
  | dK => exact (by decide +kernel : kitB "dict" "tuple" = some false)
  | dT => exact (by decide +kernel : kitB "dict" "tuple" = some false)
  | ref _ => cases hd
  | fzl _ => cases hd
  | ty _ => cases hd
theorem kitL {d : D} (hd : d.tyd = true) : kitB d.tyN "list" = some d.isL := by
  cases d with
  | non => exact (by decide +kernel : kitB "NoneType" "list" = some false)
  | bl => exact (by decide +kernel : kitB "bool" "list" = some false)
  | int => exact (by decide +kernel : kitB "int" "list" = some false)
  | str => exact (by decide +kernel : kitB "str" "list" = some false)
  | tup => exact (by decide +kernel : kitB "tuple" "list" = some false)
  | lst => exact (by decide +kernel : kitB "list" "list" = some true)
  | dK => exact (by decide +kernel : kitB "dict" "list" = some false)
  | dT => exact (by decide +kernel : kitB "dict" "list" = some false)
  | ref _ => cases hd
  | fzl _ => cases hd
  | ty _ => cases hd
theorem kitTL {d : D} (hd : d.tyd = true) : kitBs d.tyN ["tuple", "list"] = some (d.isT || d.isL) := by
  cases d with
  | non => exact (by decide +kernel : kitBs "NoneType" ["tuple", "list"] = some false)
  | bl => exact (by decide +kernel : kitBs "bool" ["tuple", "list"] = some false)
  | int => exact (by decide +kernel : kitBs "int" ["tuple", "list"] = some false)
  | str => exact (by decide +kernel : kitBs "str" ["tuple", "list"] = some false)
  | tup => exact (by decide +kernel : kitBs "tuple" ["tuple", "list"] = some true)
  | lst => exact (by decide +kernel : kitBs "list" ["tuple", "list"] = some true)
  | dK => exact (by decide +kernel : kitBs "dict" ["tuple", "list"] = some false)
  | dT => exact (by decide +kernel : kitBs "dict" ["tuple", "list"] = some false)
  | ref _ => cases hd
  | fzl _ => cases hd
  | ty _ => cases hd
theorem bx_isiI {d : D} (hd : d.tyd = true) (q : Q (.bl d.isI) M) : BX B X (.builtin "isinstance") [d, .ty "int"] G M Q := bx_isi hd (kitI hd) q
theorem bx_isiB {d : D} (hd : d.tyd = true) (q : Q (.bl d.isB) M) : BX B X (.builtin "isinstance") [d, .ty "bool"] G M Q := bx_isi hd (kitBo hd) q
theorem bx_isiSt {d : D} (hd : d.tyd = true) (q : Q (.bl d.isS) M) : BX B X (.builtin "isinstance") [d, .ty "str"] G M Q := bx_isi hd (kitS hd) q
theorem bx_isiTu {d : D} (hd : d.tyd = true) (q : Q (.bl d.isT) M) : BX B X (.builtin "isinstance") [d, .ty "tuple"] G M Q := bx_isi hd (kitT hd) q
theorem bx_isiLi {d : D} (hd : d.tyd = true) (q : Q (.bl d.isL) M) : BX B X (.builtin "isinstance") [d, .ty "list"] G M Q := bx_isi hd (kitL hd) q
theorem bx_isiTL {d : D} (hd : d.tyd = true) (q : Q (.bl (d.isT || d.isL)) M) : BX B X (.builtin "isinstance") [d, .tup [.ty "tuple", .ty "list"]] G M Q := bx_isiT hd rfl (kitTL hd) q

/-! ### list(..), tuple(..), int(..), str(..) -/
theorem bx_listL {ds : List D} (q : Q (.lst ds) M) : BX B X (.type "list") [.lst ds] G M Q := fun F σ H Q' vs r pa kk => by
  obtain ⟨v, rfl, rp⟩ := rp1 pa
  cases rp with
  | @lst a xs _ hs rs => exact WC.of call_list_of ⟨a, xs, rfl, .inl (SqL.of (r.ex _ _ hs)), fun l hl => kk.new r hl q (.lst upd_same (rs.mono (r.new hl).1))⟩
theorem bx_listT {ds : List D} (q : Q (.lst ds) M) : BX B X (.type "list") [.tup ds] G M Q := fun F σ H Q' vs r pa kk => by
  obtain ⟨v, rfl, rp⟩ := rp1 pa
  cases rp with
  | @tup a xs _ hs rs => exact WC.of call_list_of ⟨a, xs, rfl, .inr (sq_same r.ex hs), fun l hl => kk.new r hl q (.lst upd_same (rs.mono (r.new hl).1))⟩
theorem bx_listLM {ds : List D} (q : ∀ l, M l = none → Q (.ref l) (mupd M l (.lst ds))) : BX B X (.type "list") [.lst ds] G M Q := fun F σ H Q' vs r pa kk => by
  obtain ⟨v, rfl, rp⟩ := rp1 pa
  cases rp with
  | @lst a xs _ hs rs => exact WC.of call_list_of ⟨a, xs, rfl, .inl (SqL.of (r.ex _ _ hs)), fun l hl => kk.cell r hl (q l (r.freeM hl)) ⟨xs, upd_same, rs⟩⟩
theorem bx_listTM {ds : List D} (q : ∀ l, M l = none → Q (.ref l) (mupd M l (.lst ds))) : BX B X (.type "list") [.tup ds] G M Q := fun F σ H Q' vs r pa kk => by
  obtain ⟨v, rfl, rp⟩ := rp1 pa
  cases rp with
  | @tup a xs _ hs rs => exact WC.of call_list_of ⟨a, xs, rfl, .inr (sq_same r.ex hs), fun l hl => kk.cell r hl (q l (r.freeM hl)) ⟨xs, upd_same, rs⟩⟩
theorem bx_listC {l : Addr} {ds : List D} (hm : M l = some (.lst ds)) (q : Q (.lst ds) M) : BX B X (.type "list") [.ref l] G M Q := fun F σ H Q' vs r pa kk => by
  obtain ⟨v, rfl, rp⟩ := rp1 pa
  cases rp
  obtain ⟨_, xs, hx, rx⟩ := r.mem l _ hm
  exact WC.of call_list_of ⟨l, xs, rfl, .inl (.inl (.inl hx)), fun l hl => kk.new r hl q (.lst upd_same (rx.mono (r.new hl).1))⟩
theorem bx_tupL {ds : List D} (q : Q (.tup ds) M) : BX B X (.type "tuple") [.lst ds] G M Q := fun F σ H Q' vs r pa kk => by
  obtain ⟨v, rfl, rp⟩ := rp1 pa
  cases rp with
  | @lst a xs _ hs rs => exact WC.of call_tuple_of ⟨a, xs, rfl, .inl ⟨SqL.of (r.ex _ _ hs), fun l hl => kk.new r hl q (.tup sq_upd (rs.mono (r.new hl).1))⟩⟩
theorem bx_tupC {l : Addr} {ds : List D} (hm : M l = some (.lst ds)) (q : Q (.tup ds) M) : BX B X (.type "tuple") [.ref l] G M Q := fun F σ H Q' vs r pa kk => by
  obtain ⟨v, rfl, rp⟩ := rp1 pa
  cases rp
  obtain ⟨_, xs, hx, rx⟩ := r.mem l _ hm
  exact WC.of call_tuple_of ⟨l, xs, rfl, .inl ⟨.inl (.inl hx), fun l hl => kk.new r hl q (.tup sq_upd (rx.mono (r.new hl).1))⟩⟩
theorem bx_strI (h : i.natAbs.log2 < 1920) (q : Q (.str (toString i)) M) : BX B X (.type "str") [.int i] G M Q := fun F σ H Q' vs r pa kk => by
  obtain ⟨v, rfl, rp⟩ := rp1 pa
  cases rp
  exact WC.of call_str_int ⟨i, rfl, h, kk.at r q (.str _)⟩
theorem bx_intS {n : Int} (h : PySem.intText? x = some n) (hl : x.length ≤ 640) (q : Q (.int n) M) : BX B X (.type "int") [.str x] G M Q := fun F σ H Q' vs r pa kk => by
  obtain ⟨v, rfl, rp⟩ := rp1 pa
  cases rp
  exact WC.of call_int_str ⟨x, n, rfl, h, hl, kk.at r q (.int _)⟩
theorem bx_intB {t : Bool} (q : Q (.int (if t then 1 else 0)) M) : BX B X (.type "int") [.bl t] G M Q := fun F σ H Q' vs r pa kk => by
  obtain ⟨v, rfl, rp⟩ := rp1 pa
  cases rp
  exact WC.of call_int1 (.inr ⟨t, rfl, kk.at r q (.int _)⟩)
theorem bx_max2 {i j : Int} (hc : X.calm = true) (q : Q (.int (if j > i then j else i)) M) : BX B X (.builtin "max") [.int i, .int j] G M Q := fun F σ H Q' vs r pa kk => by
  obtain ⟨v, v2, rfl, rp, rp2⟩ := rp2 pa
  cases rp; cases rp2
  exact WC.of (call_max2 hc) ⟨i, j, rfl, kk.at r q (.int _)⟩
theorem bx_min2 {i j : Int} (hc : X.calm = true) (q : Q (.int (if j < i then j else i)) M) : BX B X (.builtin "min") [.int i, .int j] G M Q := fun F σ H Q' vs r pa kk => by
  obtain ⟨v, v2, rfl, rp, rp2⟩ := rp2 pa
  cases rp; cases rp2
  exact WC.of (call_min2 hc) ⟨i, j, rfl, kk.at r q (.int _)⟩

/-! ### methods of texts -/
theorem ex_m1 {id : String} {name : Str} (slot : Slot "str" name id) (ty : typeOf (.builtin id) = pure (.type "method_descriptor")) (hs : starEach [e] X.env = [(false, eval e X.env)]) (hbase : attributeBase o name X.env (eval o X.env) = eval o X.env) (hline : (apos.endLine == pos.line) = true)
    (h : EX B X o G M fun d M1 => ∃ z, d = .str z ∧ EX B X e G M1 fun y M2 => MX B X id d [y] G M2 Q) : EX B X (.Call (.Attribute o name apos) [e] [] pos) G M Q := fun F σ H Q' r kk =>
  WE.of (pe_m1 slot ty mt_wm pe_we pe_we hs hbase hline) (h F σ H _ r fun v1 H1 F1 d1 M1 ⟨z, e1, q1⟩ s1 r1 p1 => by
    subst e1
    cases p1
    exact ⟨⟨z, rfl⟩, q1 F1 σ H1 _ r1 fun v2 H2 F2 d2 M2 q2 s2 r2 p2 => q2 F2 σ H2 Q' _ _ r2 (.str z) (.cons p2 .nil) (kk.mono (s1.trans s2))⟩)
theorem mx_split (hy : (y.length == 0) = false) (hx : x.length + 2 ≤ sizeLine) (q : Q (.lst ((Txt.split x y).map D.str)) M) : MX B X "str.split" (.str x) [.str y] G M Q := fun F σ H Q' v vs r p1 pa kk => by
  obtain ⟨v2, rfl, rp⟩ := rp1 pa
  cases p1; cases rp
  exact WM.of mt_split ⟨x, y, rfl, rfl, hy, hx, fun p hp => kk.new r hp q (.lst upd_same RpAll.strs)⟩
theorem RpAll.strs_of {K : PySem.W.Frag} : ∀ {zs : List Str} {vs : List V}, RpAll K F vs (zs.map D.str) → vs = zs.map V.str
  | [], _, h => by cases h; rfl
  | z :: zs, _, h => by
    cases h with
    | cons p t =>
      cases p
      rw [RpAll.strs_of t]; rfl
theorem RpAll.ints_of {K : PySem.W.Frag} : ∀ {zs : List Int} {vs : List V}, RpAll K F vs (zs.map D.int) → vs = zs.map V.int
  | [], _, h => by cases h; rfl
  | z :: zs, _, h => by
    cases h with
    | cons p t =>
      cases p
      rw [RpAll.ints_of t]; rfl
theorem mx_join {zs : List Str} (hz : (zs.map (·.length)).sum + zs.length * x.length ≤ 16777216) (q : Q (.str (Txt.join x zs)) M) : MX B X "str.join" (.str x) [.lst (zs.map D.str)] G M Q := fun F σ H Q' v vs r p1 pa kk => by
  obtain ⟨v2, rfl, rp⟩ := rp1 pa
  cases p1
  cases rp with
  | @lst a xs _ hs rs =>
    have e := RpAll.strs_of rs
    subst e
    exact WM.of mt_join ⟨x, a, zs, rfl, rfl, .inl (SqL.of (r.ex _ _ hs)), hz, kk.at r q (.str _)⟩
/-- a text, sign by sign -/
def signsD (x : Str) : List D := x.cps.toList.map fun c => D.str ⟨#[c]⟩
theorem lx_str {Q : List D → Mem → Prop} (h : EX B X e G M fun d M1 => ∃ z, d = .str z ∧ Q (signsD z) M1) : LX B X tg e G M Q := fun F σ H R' r k =>
  WIt.of (pi_str pe_we) (h F σ H _ r fun v H1 F1 d1 M1 ⟨z, e1, q⟩ s1 r1 p1 => by
    subst e1
    cases p1
    refine ⟨z, rfl, k _ _ F1 _ M1 q s1 r1 ⟨fun i H hi s => ?_, fun H s => ?_, fun i H x H' hi s y => ?_⟩⟩
    · show i < z.cps.size
      simpa [signsD] using hi
    · show z.cps.size ≤ _
      simp [signsD]
    · obtain ⟨e, c, hc, hx⟩ := y
      subst e; subst hx
      refine ⟨.str ⟨#[c]⟩, ?_, fun B F1 σ G M s1 r1 => ⟨F1, Same.refl F1, r1, .str _⟩⟩
      unfold signsD
      rw [List.getElem?_map, Array.getElem?_toList, hc]
      rfl)

/-! ### f-strings -/
theorem ex_fmtS (h : EX B X e G M fun d M1 => ∃ z, d = .str z ∧ z.length ≤ sizeLine ∧ Q (.str z) M1) : EX B X (.FormattedValue e (-1) none pos) G M Q := fun F σ H Q' r kk =>
  WE.of (pe_fmt pe_we) (h F σ H _ r fun v H1 F1 d1 M1 ⟨z, e1, hl, q⟩ s1 r1 p1 => by
    subst e1; cases p1
    exact .inl ⟨z, rfl, hl, (kk.mono s1).at r1 q (.str _)⟩)
theorem ex_fmtI (h : EX B X e G M fun d M1 => ∃ i : Int, d = .int i ∧ i.natAbs.log2 < 1920 ∧ Q (.str (toString i)) M1) : EX B X (.FormattedValue e (-1) none pos) G M Q := fun F σ H Q' r kk =>
  WE.of (pe_fmt pe_we) (h F σ H _ r fun v H1 F1 d1 M1 ⟨i, e1, hl, q⟩ s1 r1 p1 => by
    subst e1; cases p1
    exact .inr ⟨i, rfl, hl, (kk.mono s1).at r1 q (.str _)⟩)
/-- the parts of a text, one behind the other -/
def JX (B : Bs) (X : Cx) : List Expr → Str → Sl → Mem → (Str → Mem → Prop) → Prop
  | [], acc, _, M, Q => Q acc M
  | e :: es, acc, G, M, Q => EX B X e G M fun d M1 => ∃ y, d = .str y ∧ (acc ++ y).length ≤ sizeLine ∧ JX B X es (acc ++ y) G M1 Q
theorem pj_we : ∀ es : List Expr, PJ X es (es.map (WE X))
  | [] => .nil
  | _ :: es => .cons pe_we (pj_we es)
theorem jx_ok {Q : Str → Mem → Prop} {Q' : Str → Hp → Prop} : ∀ {es : List Expr} {acc : Str} {M : Mem} {F H : Hp}, JX B X es acc G M Q → R B X.K F σ H G M → (∀ out H' F' M', Q out M' → Same F F' → R B X.K F' σ H' G M' → Q' out H') → tJs (es.map (WE X)) acc σ H Q'
  | [], acc, M, F, H, h, r, k => k acc H F M h (Same.refl F) r
  | e :: es, acc, M, F, H, h, r, k => by
    refine h F σ H _ r fun v H1 F1 d1 M1 ⟨z, e1, hl, q⟩ s1 r1 p1 => ?_
    subst e1; cases p1
    exact ⟨z, rfl, hl, jx_ok q r1 fun out H' F' M' qq s' r' => k out H' F' M' qq (s1.trans s') r'⟩
theorem ex_joined {v1 v2 : Expr} {rest : List Expr} (h : JX B X (v1 :: v2 :: rest) Str.empty G M fun out M1 => Q (.str out) M1) : EX B X (.JoinedStr (v1 :: v2 :: rest) pos) G M Q := fun F σ H Q' r kk =>
  WE.of (pe_joined (pj_we _)) (jx_ok h r fun out H' F' M' q s' r' => (kk.mono s').at r' q (.str out))
end

/-! ### equality of data -/
mutual
def D.py : D → PyData
  | .non => .none | .bl b => .bool b | .int i => .int i | .str x => .str x | .tup ds => .tuple (pys ds) | .lst ds => .list (pys ds)
  | .ref _ => .none | .ty _ => .none | .dK _ => .none | .dT _ => .none | .fzl _ => .none
def pys : List D → List PyData
  | [] => []
  | d :: ds => d.py :: pys ds
end
mutual
def D.isPy : D → Bool
  | .non => true | .bl _ => true | .int _ => true | .str _ => true | .tup ds => arePy ds | .lst ds => arePy ds
  | .ref _ => false | .ty _ => false | .dK _ => false | .dT _ => false | .fzl _ => false
def arePy : List D → Bool
  | [] => true
  | d :: ds => d.isPy && arePy ds
end
mutual
theorem Rp.dp {K : PySem.W.Frag} {F H : Hp} (s : Same F H) : ∀ {v : V} {d : D}, Rp K F v d → d.isPy = true → Dp K H v d.py
  | _, _, .non, _ => by unfold D.py; exact .non
  | _, _, .bl b, _ => by unfold D.py; exact .bl b
  | _, _, .int i, _ => by unfold D.py; exact .int i
  | _, _, .str x, _ => by unfold D.py; exact .str x
  | _, _, .ref _, h => by unfold D.isPy at h; cases h
  | _, _, .ty _, h => by unfold D.isPy at h; cases h
  | _, _, .tup hs r, h => by unfold D.isPy at h; unfold D.py; exact .tup (sq_same s hs) (RpAll.dp s r h)
  | _, _, .lst hs r, h => by unfold D.isPy at h; unfold D.py; exact .lst (SqL.of (s _ _ hs)) (RpAll.dp s r h)
  | _, _, .fzl _ _, h => by unfold D.isPy at h; cases h
  | _, _, .dK _ _, h => by unfold D.isPy at h; cases h
  | _, _, .dT _ _, h => by unfold D.isPy at h; cases h
theorem RpAll.dp {K : PySem.W.Frag} {F H : Hp} (s : Same F H) : ∀ {vs : List V} {ds : List D}, RpAll K F vs ds → arePy ds = true → DpAll K H vs (pys ds)
  | _, _, .nil, _ => by unfold pys; exact .nil
  | _, _, .cons p r, h => by
    unfold arePy at h
    obtain ⟨h1, h2⟩ := Bool.and_eq_true_iff.mp h
    unfold pys
    exact .cons (Rp.dp s p h1) (RpAll.dp s r h2)
end
def D.okEq (d : D) : Bool := d.isPy && SeqAt.shaped d.py
def eqD (d e : D) : Bool := PyData.eqv d.py e.py
section
variable {B : Bs} {X : Cx} {G : Sl} {M : Mem} {Q : D → Mem → Prop} {d d2 : D}
theorem ox_eqD (hu : X.A.units + 64 < cLine) (h1 : d.okEq = true) (h2 : d2.okEq = true) (q : Q (.bl (eqD d d2)) M) : OX B X (compareOp .Eq) d d2 G M Q := fun F σ H Q' v w r p1 p2 kk => by
  obtain ⟨a1, a2⟩ := Bool.and_eq_true_iff.mp h1
  obtain ⟨b1, b2⟩ := Bool.and_eq_true_iff.mp h2
  exact WO.of (op_eqD hu) ⟨_, _, p1.dp r.ex a1, p2.dp r.ex b1, a2, b2, kk.at r q (.bl _)⟩
theorem ox_neD (hu : X.A.units + 64 < cLine) (h1 : d.okEq = true) (h2 : d2.okEq = true) (q : Q (.bl (!eqD d d2)) M) : OX B X (compareOp .NotEq) d d2 G M Q := fun F σ H Q' v w r p1 p2 kk => by
  obtain ⟨a1, a2⟩ := Bool.and_eq_true_iff.mp h1
  obtain ⟨b1, b2⟩ := Bool.and_eq_true_iff.mp h2
  exact WO.of (op_neD hu) ⟨_, _, p1.dp r.ex a1, p2.dp r.ex b1, a2, b2, kk.at r q (.bl _)⟩
end
end FL

/-! cells that are only read by a callee; what is told is immutable -/
namespace FL
open PySem PySem.Spec PyProof.Rows L2
mutual
/-- the data with the list cells' contents in their places -/
inductive Deep (M : Mem) : D → D → Prop
  | self (d : D) : Deep M d d
  | cell {l : Addr} {ds es : List D} : M l = some (.lst ds) → DeepAll M ds es → Deep M (.ref l) (.lst es)
  | lst {ds es : List D} : DeepAll M ds es → Deep M (.lst ds) (.lst es)
  | tup {ds es : List D} : DeepAll M ds es → Deep M (.tup ds) (.tup es)
inductive DeepAll (M : Mem) : List D → List D → Prop
  | nil : DeepAll M [] []
  | cons {d e : D} {ds es : List D} : Deep M d e → DeepAll M ds es → DeepAll M (d :: ds) (e :: es)
end
theorem DeepAll.self {M : Mem} : ∀ ds : List D, DeepAll M ds ds
  | [] => .nil
  | d :: ds => .cons (.self d) (DeepAll.self ds)
section
variable {B : Bs} {K : PySem.W.Frag} {F H : Hp} {σ : L2.St} {G : Sl} {M : Mem}
mutual
theorem Deep.rp (r : R B K F σ H G M) : ∀ {d e : D}, Deep M d e → ∀ {v : V}, Rp K F v d → Rp K H v e
  | _, _, .self d, _, p => p.mono r.ex
  | _, _, .cell hm ha, _, p => by
    cases p
    obtain ⟨_, xs, hx, rx⟩ := r.mem _ _ hm
    exact .lst hx (DeepAll.rp r ha rx)
  | _, _, .lst ha, _, p => by
    cases p with
    | lst hs rs => exact .lst (r.ex _ _ hs) (DeepAll.rp r ha rs)
  | _, _, .tup ha, _, p => by
    cases p with
    | tup hs rs => exact .tup (sq_same r.ex hs) (DeepAll.rp r ha rs)
theorem DeepAll.rp (r : R B K F σ H G M) : ∀ {ds es : List D}, DeepAll M ds es → ∀ {vs : List V}, RpAll K F vs ds → RpAll K H vs es
  | _, _, .nil, _, p => by cases p; exact .nil
  | _, _, .cons h t, _, p => by
    cases p with
    | cons p1 p2 => exact .cons (Deep.rp r h p1) (DeepAll.rp r t p2)
end
end
mutual
def D.imm : D → Bool
  | .non => true | .bl _ => true | .int _ => true | .str _ => true | .ty _ => true | .tup ds => imms ds
  | .lst _ => false | .ref _ => false | .dK _ => false | .dT _ => false | .fzl _ => false
def imms : List D → Bool
  | [] => true
  | d :: ds => d.imm && imms ds
end
theorem MRp.kind {K : PySem.W.Frag} {F H : Hp} {a : Addr} : ∀ {o : MO}, MRp K F H a o → ∃ u, H a = some u ∧ (∀ xs, u ≠ .tup xs) ∧ ∀ ob w, u ≠ .frz ob w
  | .lst _, ⟨xs, h, r⟩ => ⟨_, h, (fun _ e => by cases e), (fun _ _ e => by cases e)⟩
  | .ins _ _, ⟨dx, vs, h, r⟩ => ⟨_, h, (fun _ e => by cases e), (fun _ _ e => by cases e)⟩
  | .dK _, ⟨xs, h, r⟩ => ⟨_, h, (fun _ e => by cases e), (fun _ _ e => by cases e)⟩
  | .dT _, ⟨xs, h, r⟩ => ⟨_, h, (fun _ e => by cases e), (fun _ _ e => by cases e)⟩
section
variable {B : Bs} {K : PySem.W.Frag} {F H F0 : Hp} {σ : L2.St} {G : Sl} {M : Mem}
/-- one more thing of the heap is known to stay -/
theorem R.know {a : Addr} {u : HO} (r : R B K F σ H G M) (h : H a = some u) (hu : (∃ xs, u = .tup xs) ∨ ∃ ob w, u = .frz ob w) : ∃ F2, Same F F2 ∧ R B K F2 σ H G M ∧ F2 a = some u := by
  cases e : F a with
  | some w =>
    have h2 := r.ex a w e
    rw [h] at h2
    cases h2
    exact ⟨F, Same.refl F, r, e⟩
  | none =>
    refine ⟨upd F a u, Same.upd_new e, R.grow (Same.upd_new e) (fun b w q => ?_) (fun b o q => ?_) r, upd_same⟩
    · by_cases hb : b = a
      · subst hb; rw [upd_same] at q; cases q; exact h
      · rw [upd_ne hb] at q; exact r.ex b w q
    · have hb : b ≠ a := fun z => by
        subst z
        obtain ⟨w, hw, k1, k2⟩ := (r.mem b o q).2.kind
        rw [h] at hw; cases hw
        rcases hu with ⟨xs, z⟩ | ⟨ob, w, z⟩
        · exact k1 xs z
        · exact k2 ob w z
      rw [upd_ne hb]; exact (r.mem b o q).1
mutual
theorem Rp.take_in (s : Same F0 H) : ∀ {v : V} {d : D}, Rp K F0 v d → d.imm = true → ∀ {F : Hp}, R B K F σ H G M → ∃ F2, Same F F2 ∧ R B K F2 σ H G M ∧ Rp K F2 v d
  | _, _, .non, _, F, r => ⟨F, Same.refl F, r, .non⟩
  | _, _, .bl b, _, F, r => ⟨F, Same.refl F, r, .bl b⟩
  | _, _, .int b, _, F, r => ⟨F, Same.refl F, r, .int b⟩
  | _, _, .str b, _, F, r => ⟨F, Same.refl F, r, .str b⟩
  | _, _, .ty b, _, F, r => ⟨F, Same.refl F, r, .ty b⟩
  | _, _, .ref _, h, _, _ => by unfold D.imm at h; cases h
  | _, _, .lst _ _, h, _, _ => by unfold D.imm at h; cases h
  | _, _, .fzl _ _, h, _, _ => by unfold D.imm at h; cases h
  | _, _, .dK _ _, h, _, _ => by unfold D.imm at h; cases h
  | _, _, .dT _ _, h, _, _ => by unfold D.imm at h; cases h
  | _, _, .tup hs rs, h, F, r => by
    unfold D.imm at h
    obtain ⟨F1, s1, r1, p1⟩ := RpAll.take_in s rs h r
    rcases hs with (hs | ⟨ob, hs⟩) | hs
    · obtain ⟨F2, s2, r2, e2⟩ := r1.know (s _ _ hs) (.inl ⟨_, rfl⟩)
      exact ⟨F2, s1.trans s2, r2, .tup (.inl (.inl e2)) (p1.mono s2)⟩
    · obtain ⟨F2, s2, r2, e2⟩ := r1.know (s _ _ hs) (.inr ⟨_, _, rfl⟩)
      exact ⟨F2, s1.trans s2, r2, .tup (.inl (.inr ⟨ob, e2⟩)) (p1.mono s2)⟩
    · exact ⟨F1, s1, r1, .tup (.inr hs) p1⟩
theorem RpAll.take_in (s : Same F0 H) : ∀ {vs : List V} {ds : List D}, RpAll K F0 vs ds → imms ds = true → ∀ {F : Hp}, R B K F σ H G M → ∃ F2, Same F F2 ∧ R B K F2 σ H G M ∧ RpAll K F2 vs ds
  | _, _, .nil, _, F, r => ⟨F, Same.refl F, r, .nil⟩
  | _, _, .cons p t, h, F, r => by
    unfold imms at h
    obtain ⟨h1, h2⟩ := Bool.and_eq_true_iff.mp h
    obtain ⟨F1, s1, r1, p1⟩ := Rp.take_in s p h1 r
    obtain ⟨F2, s2, r2, p2⟩ := RpAll.take_in s t h2 r1
    exact ⟨F2, s1.trans s2, r2, .cons (p1.mono s2) p2⟩
end
end
abbrev noM : Mem := fun _ => none
section
variable {B : Bs} {X : Cx} {a b c e o : Expr} {es : List Expr} {G : Sl} {M : Mem} {Q : D → Mem → Prop} {pos p : Pos} {F F1 : Hp} {σ : L2.St} {k : Nat} {x : Str} {sp : DSp}
theorem lift_ro {H1 : Hp} {vs : List V} {ds es : List D} {Q' : VK} {E0' : XK} {Qd : D → Mem → Prop} (r1 : R B X.K F1 σ H1 G M) (p1 : RpAll X.K F1 vs ds) (dp : DeepAll M ds es) (q : sp es noM Qd) (hq : ∀ d M', Qd d M' → d.imm = true ∧ Q d M) (kk : KE B X F1 σ G Q Q') : lift X.K sp vs H1 Q' E0' := by
  refine ⟨H1, es, noM, Qd, dp.rp r1 p1, Same.refl H1, (fun _ _ z => by cases z), q, fun d M' qd v H' F' s' k' e' m' rp => ?_⟩
  obtain ⟨hi, hd⟩ := hq d M' qd
  have hs : Same H1 H' := fun a u h => (k' a u h rfl).1
  obtain ⟨F2, s2, r2, p2⟩ := rp.take_in e' hi (r1.heap hs)
  exact kk v H' F2 d M hd s2 r2 p2
/-- a call that only reads the cells -/
theorem ex_callR (c : Dfn X.prog X.w X.K X.mg X.base k x sp) (hr : Room k X.A) (hg : Gl X x) (hdb : (x == ("__debug__" : Str)) = false)
    (he : starEach (e :: es) X.env = (false, eval e X.env) :: starEach es X.env) (hpl : (backTo pos (starEach es X.env)).any (·.1) = false)
    (h : AX B X (e :: es) G M fun ds M1 => ∃ es' Qd, DeepAll M1 ds es' ∧ sp es' noM Qd ∧ ∀ d M', Qd d M' → d.imm = true ∧ Q d M1) : EX B X (.Call (.Name x p) (e :: es) [] pos) G M Q := fun F σ H Q' r kk => by
  obtain ⟨f, fd, ps, Fo, mgx, kp, bd⟩ := c.ex
  refine WE.of (pe_call Fo hr hg mgx kp bd .nil pass0 pa_wa hdb he hpl) (h F σ H _ r fun vs H1 F1 ds M1 ⟨es', Qd, dp, q1, hq⟩ s1 r1 p1 => ?_)
  rw [List.append_nil]
  exact lift_ro r1 p1 dp q1 hq (kk.mono s1)
/-- append to a list cell -/
theorem mx_append {l : Addr} {ds : List D} {d : D} (hm : M l = some (.lst ds)) (hl : ds.length < sizeLine) (q : Q .non (mupd M l (.lst (ds ++ [d])))) : MX B X "list.append" (.ref l) [d] G M Q := fun F σ H Q' v vs r p1 pa kk => by
  obtain ⟨v2, rfl, rp⟩ := rp1 pa
  cases p1
  obtain ⟨_, xs, hx, rx⟩ := r.mem l _ hm
  exact WM.of mt_append ⟨l, xs, v2, rfl, rfl, hx, by rw [rx.length]; exact hl, kk _ _ F _ _ q (Same.refl F) (r.write hm ⟨_, upd_same, rx.append (.cons rp .nil)⟩) .non⟩
/-- a method of a built-in list, with arguments; the receiver a cell -/
theorem ex_bmC {name : Str} {id : String} {apos : Pos} (slot : Slot "list" name id) (hty : typeOf (.builtin id) = pure (.type "method_descriptor"))
    (hbase : attributeBase o name X.env (eval o X.env) = eval o X.env)
    (hfew : ((backTo pos (starEach (e :: es) X.env)).all (fun x => !x.1) && (backToKw pos (keywordEach [] X.env)).all (fun x => x.1.isSome)
      && decide ((e :: es).length + ([] : List Keyword).length + (if ([] : List Keyword).isEmpty then 0 else 1) < 30)) = true)
    (hline : (apos.endLine == pos.line) = true) (hs : starEach (e :: es) X.env = (false, eval e X.env) :: starEach es X.env) (hplain : (backTo pos (starEach es X.env)).any (·.1) = false)
    (h : EX B X o G M fun d M1 => ∃ l ds, d = .ref l ∧ M1 l = some (.lst ds) ∧ AX B X (e :: es) G M1 fun xs M2 => MX B X id (.ref l) xs G M2 Q) : EX B X (.Call (.Attribute o name apos) (e :: es) [] pos) G M Q := fun F σ H Q' r kk =>
  WE.of (pe_bm PySem.F.plainAttrs_list slot hty mt_wm pe_we pa_wa hbase hfew hline hs hplain) (h F σ H _ r fun v1 H1 F1 d1 M1 ⟨l, ds, e1, hm, q1⟩ s1 r1 p1 => by
    subst e1
    cases p1
    obtain ⟨_, xs, hx, rx⟩ := r1.mem l _ hm
    exact ⟨.inl ⟨rfl, xs, .inl (.inl hx)⟩, q1 F1 σ H1 _ r1 fun vs H2 F2 ds2 M2 q2 s2 r2 p2 => q2 F2 σ H2 Q' _ vs r2 (.ref l) p2 (kk.mono (s1.trans s2))⟩)
/-- l.append(e), l a cell -/
theorem ex_append {apos : Pos} (hbase : attributeBase o "append" X.env (eval o X.env) = eval o X.env)
    (hfew : ((backTo pos (starEach [e] X.env)).all (fun x => !x.1) && (backToKw pos (keywordEach [] X.env)).all (fun x => x.1.isSome)
      && decide ([e].length + ([] : List Keyword).length + (if ([] : List Keyword).isEmpty then 0 else 1) < 30)) = true)
    (hline : (apos.endLine == pos.line) = true) (hs : starEach [e] X.env = (false, eval e X.env) :: starEach [] X.env) (hplain : (backTo pos (starEach [] X.env)).any (·.1) = false)
    (h : EX B X o G M fun d M1 => ∃ l ds0, d = .ref l ∧ M1 l = some (.lst ds0) ∧ EX B X e G M1 fun y M2 => ∃ ds, M2 l = some (.lst ds) ∧ ds.length < sizeLine ∧ Q .non (mupd M2 l (.lst (ds ++ [y])))) : EX B X (.Call (.Attribute o "append" apos) [e] [] pos) G M Q :=
  ex_bmC PySem.F.slot_list_append PySem.F.type_list_append hbase hfew hline hs hplain (h.imp fun d M1 ⟨l, ds0, e1, hm, q⟩ => ⟨l, ds0, e1, hm, ax_cons hs (q.imp fun y M2 ⟨ds, h2, hl, q2⟩ => ax_nil (mx_append h2 hl q2))⟩)
end
end FL

namespace FL
open PySem PySem.Spec PyProof.Rows L2
section
variable {B : Bs} {X : Cx} {a b c e o tg iter elt : Expr} {es : List Expr} {G G' : Sl} {M M' : Mem} {Q : D → Mem → Prop} {E : En} {pos p pos' : Pos} {F F1 : Hp} {σ : L2.St}
/-- a comprehension that changes no cell: f tells what an item comes to -/
def LcP (B : Bs) (X : Cx) (scope : Scope) (own : List Nat) (t : Tg) (ifs : List Expr) (elt : Expr) (G : Sl) (ds : List D) (M1 : Mem) (f : D → Option D) : Prop :=
  ds.length < sizeLine ∧ ∀ (d : D) (M' : Mem), d ∈ ds → (∀ a o, M1 a = some o → M' a = some o) → TgD t d fun dvs => Bk X scope fun X' => TXs B X' ifs (gsetAll (gwipe G own) t.slots dvs) M' fun b M3 =>
      if b = true then Bk X scope fun X2 => EX B X2 elt (gsetAll (gwipe G own) t.slots dvs) M3 fun y M4 => M4 = M' ∧ f d = some y else M3 = M' ∧ f d = none
theorem ex_lcp {scope : Scope} {own : List (Str × Nat)} {t : Tg} {ifs : List Expr} (f : D → Option D) (hc : X.calm = true) (hN : X.N.Nodup) (ok : BlkOk X.N X.env.scope scope own) (ht : ∀ i ∈ t.slots, i ∈ own.map (·.2))
    (hg : Bk X scope fun X' => PG X' tg (gTg X.K t)) (hs : ∀ x, foldedSetIterable iter X.env x = pure x)
    (h : LX B X tg iter G M fun ds M1 => LcP B X scope (own.map (·.2)) t ifs elt G ds M1 f ∧ Q (.lst (ds.filterMap f)) M1) : EX B X (.ListComp elt [⟨tg, iter, ifs, 0⟩] scope pos) G M Q :=
  ex_lc (Q := Q) hc hN ok ht hg hs fun F σ H R' r k => h F σ H R' r fun J H' F' ds M1 ⟨lp, q⟩ s r' w => k J H' F' ds M1 (lc_pure (fin := fun acc M2 => Q (.lst acc) M2) f lp.1 (fun i d M' hd hm => lp.2 d M' (List.mem_of_getElem? hd) hm) q) s r' w
/-- .. its list a cell -/
theorem ex_lcpM {scope : Scope} {own : List (Str × Nat)} {t : Tg} {ifs : List Expr} (f : D → Option D) (hc : X.calm = true) (hN : X.N.Nodup) (ok : BlkOk X.N X.env.scope scope own) (ht : ∀ i ∈ t.slots, i ∈ own.map (·.2))
    (hg : Bk X scope fun X' => PG X' tg (gTg X.K t)) (hs : ∀ x, foldedSetIterable iter X.env x = pure x)
    (h : LX B X tg iter G M fun ds M1 => LcP B X scope (own.map (·.2)) t ifs elt G ds M1 f ∧ ∀ l, M1 l = none → Q (.ref l) (mupd M1 l (.lst (ds.filterMap f)))) : EX B X (.ListComp elt [⟨tg, iter, ifs, 0⟩] scope pos) G M Q :=
  ex_lcM (Q := Q) hc hN ok ht hg hs fun F σ H R' r k => h F σ H R' r fun J H' F' ds M1 ⟨lp, q⟩ s r' w => k J H' F' ds M1 (fun L hL => by
    obtain ⟨I, i0, turn, fin⟩ := lc_pure (fin := fun acc M2 => acc = ds.filterMap f ∧ M2 = M1) f lp.1 (fun i d M' hd hm => lp.2 d M' (List.mem_of_getElem? hd) hm) ⟨rfl, rfl⟩ L hL
    refine ⟨I, i0, turn, fun acc M' hI hM => ?_⟩
    obtain ⟨ea, eM⟩ := fin acc M' hI hM
    have e2 : M' = mupd M1 L (.lst acc) := by
      funext b
      unfold mupd
      by_cases hb : b = L
      · subst hb; rw [if_pos rfl]; exact hM
      · rw [if_neg hb, ← eM]; unfold mdel; rw [if_neg hb]
    rw [e2, ea]
    exact q L hL) s r' w
/-- name = a comprehension that changes no cell -/
theorem sx_setLcp {i : Nat} {y : Str} {py spos : Pos} {scope : Scope} {own : List (Str × Nat)} {t : Tg} {ifs : List Expr} (f : D → Option D) (hc : X.calm = true) (hN : X.N.Nodup) (hy : X.N[i]? = some y) (hyl : X.env.scope.names.lookup y = some .local)
    (hsw : swapsWith (.ListComp elt [⟨tg, iter, ifs, 0⟩] scope pos) (some (.Name y py)) spos.line X.env = pure true) (ok : BlkOk X.N X.env.scope scope own) (ht : ∀ i ∈ t.slots, i ∈ own.map (·.2))
    (hg : Bk X scope fun X' => PG X' tg (gTg X.K t)) (hs : ∀ x, foldedSetIterable iter X.env x = pure x)
    (h : LX B X tg iter G M fun ds M1 => LcP B X scope (own.map (·.2)) t ifs elt G ds M1 f ∧ E.nx (G.set i (some (.lst (ds.filterMap f)))) M1) : SX B X (.Assign [.Name y py] (.ListComp elt [⟨tg, iter, ifs, 0⟩] scope pos) spos) E G M :=
  sx_setLc hc hN hy hyl hsw ok ht hg hs fun F σ H R' r k => h F σ H R' r fun J H' F' ds M1 ⟨lp, q⟩ s r' w => k J H' F' ds M1 (lc_pure (fin := fun acc M2 => E.nx (G.set i (some (.lst acc))) M2) f lp.1 (fun i d M' hd hm => lp.2 d M' (List.mem_of_getElem? hd) hm) q) s r' w
end
theorem txs_nil {B : Bs} {X : Cx} {G : Sl} {M : Mem} {Q : Bool → Mem → Prop} (h : Q true M) : TXs B X [] G M Q := h
theorem txs_one {B : Bs} {X : Cx} {c : Expr} {G : Sl} {M : Mem} {Q : Bool → Mem → Prop} (h : TX B X c G M Q) : TXs B X [c] G M Q := h
/-! ### typed lists -/
theorem filterMap_enc {α : Type} {enc : α → D} {f : D → Option D} {g : α → D} : ∀ {xs : List α}, (∀ x ∈ xs, f (enc x) = some (g x)) → (xs.map enc).filterMap f = xs.map g
  | [], _ => rfl
  | x :: xs, h => by
    rw [List.map_cons, List.filterMap_cons, h x (by simp), List.map_cons, filterMap_enc fun y hy => h y (List.mem_cons_of_mem _ hy)]
theorem str_empty_app (x : Str) : Str.empty ++ x = x := by
  cases x with
  | mk c =>
    show Str.mk (_ ++ c) = Str.mk c
    congr 1
    exact Array.empty_append
end FL

/-! == of data that may be laid -/
namespace FL
open PySem PySem.Spec PyProof.Rows L2
mutual
def D.okE : D → Bool
  | .non => true | .bl _ => true | .int _ => true | .str x => PyData.strOk x | .tup ds => okEs ds | .lst ds => okEs ds
  | .ref _ => false | .ty _ => false | .dK _ => false | .dT _ => false | .fzl _ => false
def okEs : List D → Bool
  | [] => true
  | d :: ds => d.okE && okEs ds
end
mutual
def D.dep : D → Nat
  | .tup ds => deps ds + 1 | .lst ds => deps ds + 1
  | .non => 0 | .bl _ => 0 | .int _ => 0 | .str _ => 0 | .ref _ => 0 | .ty _ => 0 | .dK _ => 0 | .dT _ => 0 | .fzl _ => 0
def deps : List D → Nat
  | [] => 0
  | d :: ds => max d.dep (deps ds)
end
mutual
theorem okE_py : ∀ d : D, d.okE = true → d.isPy = true ∧ d.py.canLay0 = true
  | .non, _ => ⟨by unfold D.isPy; rfl, by unfold D.py; rfl⟩
  | .bl _, _ => ⟨by unfold D.isPy; rfl, by unfold D.py; rfl⟩
  | .int _, _ => ⟨by unfold D.isPy; rfl, by unfold D.py; rfl⟩
  | .str x, h => ⟨by unfold D.isPy; rfl, by unfold D.okE at h; unfold D.py PyData.canLay0; exact h⟩
  | .tup ds, h => by
    unfold D.okE at h
    unfold D.isPy D.py PyData.canLay0
    exact okEs_py ds h
  | .lst ds, h => by
    unfold D.okE at h
    unfold D.isPy D.py PyData.canLay0
    exact okEs_py ds h
  | .ref _, h => by unfold D.okE at h; cases h
  | .fzl _, h => by unfold D.okE at h; cases h
  | .ty _, h => by unfold D.okE at h; cases h
  | .dK _, h => by unfold D.okE at h; cases h
  | .dT _, h => by unfold D.okE at h; cases h
theorem okEs_py : ∀ ds : List D, okEs ds = true → arePy ds = true ∧ PyData.canLayAll0 (pys ds) = true
  | [], _ => ⟨by unfold arePy; rfl, by unfold pys PyData.canLayAll0; rfl⟩
  | d :: ds, h => by
    unfold okEs at h
    obtain ⟨h1, h2⟩ := Bool.and_eq_true_iff.mp h
    obtain ⟨a1, a2⟩ := okE_py d h1
    obtain ⟨b1, b2⟩ := okEs_py ds h2
    unfold arePy pys PyData.canLayAll0
    rw [a1, b1, a2, b2]
    exact ⟨rfl, rfl⟩
end
mutual
theorem dep_py : ∀ d : D, d.py.depth ≤ d.dep
  | .non => by unfold D.py PyData.depth; exact Nat.zero_le _
  | .bl _ => by unfold D.py PyData.depth; exact Nat.zero_le _
  | .int _ => by unfold D.py PyData.depth; exact Nat.zero_le _
  | .str _ => by unfold D.py PyData.depth; exact Nat.zero_le _
  | .ref _ => by unfold D.py PyData.depth; exact Nat.zero_le _
  | .fzl _ => by unfold D.py PyData.depth; exact Nat.zero_le _
  | .ty _ => by unfold D.py PyData.depth; exact Nat.zero_le _
  | .dK _ => by unfold D.py PyData.depth; exact Nat.zero_le _
  | .dT _ => by unfold D.py PyData.depth; exact Nat.zero_le _
  | .tup ds => by unfold D.py PyData.depth D.dep; exact Nat.succ_le_succ (deps_py ds)
  | .lst ds => by unfold D.py PyData.depth D.dep; exact Nat.succ_le_succ (deps_py ds)
theorem deps_py : ∀ ds : List D, PyData.depthAll (pys ds) ≤ deps ds
  | [] => by unfold pys PyData.depthAll; exact Nat.zero_le _
  | d :: ds => by
    have h1 := dep_py d
    have h2 := deps_py ds
    unfold pys PyData.depthAll deps
    omega
end
theorem okEq_of {d : D} (h : d.okE = true) (hd : d.dep ≤ 64) : d.okEq = true := by
  obtain ⟨h1, h2⟩ := okE_py d h
  have h3 := dep_py d
  unfold D.okEq SeqAt.shaped
  rw [h1, h2, decide_eq_true (Nat.le_trans h3 hd)]
  rfl
theorem okEs_all {ds : List D} : okEs ds = true ↔ ∀ d ∈ ds, d.okE = true := by
  induction ds with
  | nil => unfold okEs; simp
  | cons d ds ih => unfold okEs; rw [Bool.and_eq_true_iff, ih]; simp
theorem deps_le {ds : List D} {n : Nat} : deps ds ≤ n ↔ ∀ d ∈ ds, d.dep ≤ n := by
  induction ds with
  | nil => unfold deps; simp
  | cons d ds ih =>
    unfold deps
    rw [Nat.max_le, ih]
    simp
theorem okEq_lst {ds : List D} {n : Nat} (h : ∀ d ∈ ds, d.okE = true ∧ d.dep ≤ n) (hn : n < 64) : (D.lst ds).okEq = true := by
  refine okEq_of ?_ ?_
  · unfold D.okE; exact okEs_all.mpr fun d hd => (h d hd).1
  · unfold D.dep
    have := deps_le.mpr fun d hd => (h d hd).2
    omega
theorem okEq_tup {ds : List D} {n : Nat} (h : ∀ d ∈ ds, d.okE = true ∧ d.dep ≤ n) (hn : n < 64) : (D.tup ds).okEq = true := by
  refine okEq_of ?_ ?_
  · unfold D.okE; exact okEs_all.mpr fun d hd => (h d hd).1
  · unfold D.dep
    have := deps_le.mpr fun d hd => (h d hd).2
    omega
theorem okEq_nil : (D.lst []).okEq = true := okEq_lst (n := 0) (by simp) (by decide)
def eqDs (ds es : List D) : Bool := PyData.eqvAll (pys ds) (pys es)
theorem eqD_lst (ds es : List D) : eqD (.lst ds) (.lst es) = eqDs ds es := by unfold eqD D.py PyData.eqv; rfl
theorem eqD_tup (ds es : List D) : eqD (.tup ds) (.tup es) = eqDs ds es := by unfold eqD D.py PyData.eqv; rfl
theorem eqD_int (i j : Int) : eqD (.int i) (.int j) = (i == j) := by unfold eqD D.py PyData.eqv; rfl
theorem eqD_str (x y : Str) : eqD (.str x) (.str y) = (x == y) := by unfold eqD D.py PyData.eqv; rfl
theorem eqDs_nil : eqDs [] [] = true := by unfold eqDs pys PyData.eqvAll; rfl
theorem eqDs_cons (d e : D) (ds es : List D) : eqDs (d :: ds) (e :: es) = (eqD d e && eqDs ds es) := by unfold eqDs; rw [pys, pys, PyData.eqvAll]; rfl
theorem eqDs_cn (d : D) (ds : List D) : eqDs (d :: ds) [] = false := by unfold eqDs; rw [pys, pys, PyData.eqvAll]
theorem eqDs_nc (d : D) (ds : List D) : eqDs [] (d :: ds) = false := by unfold eqDs; rw [pys, pys, PyData.eqvAll]
theorem eqDs_nil_r : ∀ ds : List D, eqDs ds [] = ds.isEmpty
  | [] => eqDs_nil
  | d :: ds => eqDs_cn d ds
theorem eqDs_enc {α : Type} [DecidableEq α] {enc : α → D} (h : ∀ x y, eqD (enc x) (enc y) = decide (x = y)) : ∀ xs ys : List α, eqDs (xs.map enc) (ys.map enc) = decide (xs = ys)
  | [], [] => eqDs_nil
  | [], y :: ys => by rw [List.map_cons]; exact (eqDs_nc _ _).trans (decide_eq_false (by simp)).symm
  | x :: xs, [] => by rw [List.map_cons]; exact (eqDs_cn _ _).trans (decide_eq_false (by simp)).symm
  | x :: xs, y :: ys => by
    rw [List.map_cons, List.map_cons, eqDs_cons, h, eqDs_enc h xs ys]
    by_cases e1 : x = y
    · by_cases e2 : xs = ys <;> simp [e1, e2]
    · simp [e1]
theorem eqD_int' (i j : Int) : eqD (.int i) (.int j) = decide (i = j) := by rw [eqD_int]; exact Bool.beq_eq_decide_eq i j
theorem eqD_str' (x y : Str) : eqD (.str x) (.str y) = decide (x = y) := by rw [eqD_str]; exact Bool.beq_eq_decide_eq x y
section
variable {B : Bs} {X : Cx} {G : Sl} {M : Mem} {Q : D → Mem → Prop} {d : D} {pos : Pos}
/-- compared with [] -/
theorem ex_cmp0 {op : CmpOp} (h : OX B X (compareOp op) d (.lst []) G M Q) : EX B X (.List [] pos) G M fun y M2 => OX B X (compareOp op) d y G M2 Q := ex_lst (ax_nil ⟨Nat.zero_le _, h⟩)
theorem ox_ne0 {ds : List D} {n : Nat} (hu : X.A.units + 64 < cLine) (h : ∀ d ∈ ds, d.okE = true ∧ d.dep ≤ n) (hn : n < 64) (q : Q (.bl (!ds.isEmpty)) M) : OX B X (compareOp .NotEq) (.lst ds) (.lst []) G M Q :=
  ox_neD hu (okEq_lst h hn) okEq_nil (by rw [eqD_lst, eqDs_nil_r]; exact q)
theorem ox_eq0 {ds : List D} {n : Nat} (hu : X.A.units + 64 < cLine) (h : ∀ d ∈ ds, d.okE = true ∧ d.dep ≤ n) (hn : n < 64) (q : Q (.bl ds.isEmpty) M) : OX B X (compareOp .Eq) (.lst ds) (.lst []) G M Q :=
  ox_eqD hu (okEq_lst h hn) okEq_nil (by rw [eqD_lst, eqDs_nil_r]; exact q)
end
end FL

/-! the head by facts, over data -/
namespace FL
open PySem PySem.Spec PyProof.Rows L2
theorem fun_of {K : PySem.W.Frag} {x qual : Str} {st : Stmt} {f : Addr} {fd : FuncData} (F : FunD K x qual (defArgs st) (defBody st) (defScope st) [] [] f fd) : Fun K x qual st f fd := by
  obtain ⟨oc, od, dV, kV, doc, pm, an, cdv, ct, osl, e, lk, hcd, hD, hK⟩ := F.ex
  rcases hD with ⟨_, rfl⟩ | ⟨z, _⟩
  · exact ⟨⟨oc, od, kV, doc, pm, an, cdv, ct, osl, e, lk, hcd⟩, F.kp⟩
  · exact absurd rfl z
def defAt (p : Str × Option Str) (name qual : Str) (st : Stmt) : He.DefD := ⟨p, name, qual, defArgs st, defBody st, defScope st, [], []⟩
/-- the law: at every script it tells True -/
def spTrue : DSp := fun ds M Q => ∃ ns : List Int, ds = [.fzl (ns.map D.int)] ∧ ns.length ≤ 63 ∧ M = noM ∧ ∀ M', Q (.bl true) M'
theorem law_sp {K : PySem.W.Frag} {H : Hp} {a : Addr} {ns : List Int} {E : XK} (hl : ns.length ≤ 63) (hS : SqL K H a (ns.map V.int)) : lift K spTrue [.ref a] H (fun v _ => v = .bl true) E :=
  ⟨H, [.fzl (ns.map D.int)], noM, fun d _ => d = .bl true, .cons (.fzl hS RpAll.ints) .nil, Same.refl H, (fun a o z => by cases z), ⟨ns, rfl, hl, rfl, fun _ => rfl⟩, fun d M' e v H' F' _ _ _ _ rp => by subst e; cases rp; rfl⟩
section
variable {K : PySem.W.Frag} {h : Heap} {mg : Str → Option Value} (X : K.In h) (G : h.Ns mainGlobals mg)
include X G
theorem cst_int {x : Str} {i : Int} (c : (He.Fa.int x i).ok K = true) : Cst K mg x (.int i) := by
  obtain ⟨t, e⟩ := He.int_ok X G c
  exact ⟨_, .int i, e, ⟨t, rfl⟩, fun F => .int i⟩
theorem cst_str {x z : Str} (c : (He.Fa.str x z).ok K = true) : Cst K mg x (.str z) := by
  obtain ⟨t, e⟩ := He.str_ok X G c
  exact ⟨_, .str z, e, ⟨t, rfl⟩, fun F => .str z⟩
theorem cst_tup {x : Str} {zs : List Str} (c : (He.Fa.glo x).ok K = true) (t : He.tupB K x (zs.map He.Dv.str) = true) : Cst K mg x (.tup (zs.map D.str)) := by
  refine ⟨_, .ref (He.ga K x), He.glo_ok X G c, rfl, fun F => ?_⟩
  have e : (zs.map He.Dv.str).map (He.Dv.v K) = zs.map V.str := by
    rw [List.map_map]; rfl
  have s := He.tupB_ok t F
  rw [e] at s
  exact .tup s RpAll.strs
end
theorem dfn_mk {P : Program} {w : World} {K : PySem.W.Frag} {mg : Str → Option Value} {base : Heap} {k : Nat} {x : Str} {sp : DSp} {f : Addr} {fd : FuncData} {ps : List Str} (h : FnOk P w K mg base CX0 k f fd ps (lift K sp)) (g : mg x = some (.ref f)) (kp : PySem.W.keepIn K (.ref f) = true) (b : Binds K fd ps []) : Dfn P w K mg base k x sp := ⟨f, fd, ps, h, g, kp, b⟩
end FL

namespace FL
open PySem PySem.Spec PyProof.Rows L2
mutual
/-- data that may be compared place by place -/
def D.okA : D → Bool
  | .non => true | .bl _ => true | .int _ => true | .str _ => true
  | .tup ds => decide (ds.length ≤ 100000) && okAs ds
  | .lst ds => decide (ds.length ≤ 100000) && okAs ds
  | .ref _ => false | .ty _ => false | .dK _ => false | .dT _ => false | .fzl _ => false
def okAs : List D → Bool
  | [] => true
  | d :: ds => d.okA && okAs ds
end
theorem okAs_all {ds : List D} : okAs ds = true ↔ ∀ d ∈ ds, d.okA = true := by
  induction ds with
  | nil => unfold okAs; simp
  | cons d ds ih => unfold okAs; rw [Bool.and_eq_true_iff, ih]; simp
theorem okA_tup {ds : List D} (hl : ds.length ≤ 100000) (h : ∀ d ∈ ds, d.okA = true) : (D.tup ds).okA = true := by
  unfold D.okA; rw [decide_eq_true hl, okAs_all.mpr h]; rfl
theorem okA_lst {ds : List D} (hl : ds.length ≤ 100000) (h : ∀ d ∈ ds, d.okA = true) : (D.lst ds).okA = true := by
  unfold D.okA; rw [decide_eq_true hl, okAs_all.mpr h]; rfl
theorem okA_tup' {ds : List D} (h : (D.tup ds).okA = true) : ds.length ≤ 100000 ∧ ∀ d ∈ ds, d.okA = true := by
  unfold D.okA at h
  obtain ⟨h1, h2⟩ := Bool.and_eq_true_iff.mp h
  exact ⟨of_decide_eq_true h1, okAs_all.mp h2⟩
theorem okA_lst' {ds : List D} (h : (D.lst ds).okA = true) : ds.length ≤ 100000 ∧ ∀ d ∈ ds, d.okA = true := by
  unfold D.okA at h
  obtain ⟨h1, h2⟩ := Bool.and_eq_true_iff.mp h
  exact ⟨of_decide_eq_true h1, okAs_all.mp h2⟩
theorem dep_tup {ds : List D} {n : Nat} : (D.tup ds).dep ≤ n ↔ 1 ≤ n ∧ ∀ d ∈ ds, d.dep ≤ n - 1 := by
  have e : (D.tup ds).dep = deps ds + 1 := by unfold D.dep; rfl
  rw [e, ← deps_le]
  omega
theorem dep_lst {ds : List D} {n : Nat} : (D.lst ds).dep ≤ n ↔ 1 ≤ n ∧ ∀ d ∈ ds, d.dep ≤ n - 1 := by
  have e : (D.lst ds).dep = deps ds + 1 := by unfold D.dep; rfl
  rw [e, ← deps_le]
  omega
theorem okA_tyd {d : D} (h : d.okA = true) : d.tyd = true := by
  cases d <;> first | rfl | (unfold D.okA at h; cases h)
theorem filterMap_none {ds : List D} : ds.filterMap (fun _ => (none : Option D)) = [] := by
  induction ds with
  | nil => rfl
  | cons d ds ih => simpa using ih
section
variable {CX : CXT} {P : Program} {w : World} {K : PySem.W.Frag} {mg : Str → Option Value} {base : Heap} {N : List Str} {qual : Str} {sc : Scope} {f : Addr} {cdv : Value} {A : Around} {outer : List Env} {s : Shared} {H : Hp} {E : XK} {x : Str}
theorem Blt.fn {v : Value} (m : mg x = none) (g : Gl (cxOf CX P w K mg base N qual sc f cdv A outer s H E).nox x) (b : bootBuiltins x = some v) (n : x ≠ "__name__" := by decide) (d : (x == ("__debug__" : Str)) = false := by decide) : Blt (cxOf CX P w K mg base N qual sc f cdv A outer s H E).nox x v := ⟨g, m, b, n, d⟩
theorem Gb.fn {d : D} (m : Cst K mg x d) (g : Gl (cxOf CX P w K mg base N qual sc f cdv A outer s H E).nox x) (hd : (x == ("__debug__" : Str)) = false := by decide) : Gb (cxOf CX P w K mg base N qual sc f cdv A outer s H E).nox x d := ⟨g, m, hd⟩
theorem Dfn.fn {k : Nat} {sp : DSp} (h : Dfn P w K mg base k x sp) : Dfn (cxOf CX P w K mg base N qual sc f cdv A outer s H E).nox.prog (cxOf CX P w K mg base N qual sc f cdv A outer s H E).nox.w (cxOf CX P w K mg base N qual sc f cdv A outer s H E).nox.K (cxOf CX P w K mg base N qual sc f cdv A outer s H E).nox.mg (cxOf CX P w K mg base N qual sc f cdv A outer s H E).nox.base k x sp := h
variable {s1 : Shared} {H1 : Hp} {sc1 : Scope} {cenv : Env} {fp : List Addr}
theorem Blt.fnb {v : Value} (m : mg x = none) (g : Gl ((cxOf CX P w K mg base N qual sc f cdv A outer s H E).nox.blk s1 H1 sc1 cenv fp) x) (b : bootBuiltins x = some v) (n : x ≠ "__name__" := by decide) (d : (x == ("__debug__" : Str)) = false := by decide) : Blt ((cxOf CX P w K mg base N qual sc f cdv A outer s H E).nox.blk s1 H1 sc1 cenv fp) x v := ⟨g, m, b, n, d⟩
theorem Gb.fnb {d : D} (m : Cst K mg x d) (g : Gl ((cxOf CX P w K mg base N qual sc f cdv A outer s H E).nox.blk s1 H1 sc1 cenv fp) x) (hd : (x == ("__debug__" : Str)) = false := by decide) : Gb ((cxOf CX P w K mg base N qual sc f cdv A outer s H E).nox.blk s1 H1 sc1 cenv fp) x d := ⟨g, m, hd⟩
theorem Dfn.fnb {k : Nat} {sp : DSp} (h : Dfn P w K mg base k x sp) : Dfn ((cxOf CX P w K mg base N qual sc f cdv A outer s H E).nox.blk s1 H1 sc1 cenv fp).prog ((cxOf CX P w K mg base N qual sc f cdv A outer s H E).nox.blk s1 H1 sc1 cenv fp).w ((cxOf CX P w K mg base N qual sc f cdv A outer s H E).nox.blk s1 H1 sc1 cenv fp).K ((cxOf CX P w K mg base N qual sc f cdv A outer s H E).nox.blk s1 H1 sc1 cenv fp).mg ((cxOf CX P w K mg base N qual sc f cdv A outer s H E).nox.blk s1 H1 sc1 cenv fp).base k x sp := h
end
theorem Dfn.blk {X : Cx} {k : Nat} {x : Str} {sp : DSp} {s : Shared} {H : Hp} {scope : Scope} {cenv : Env} {fp : List Addr} (h : Dfn X.prog X.w X.K X.mg X.base k x sp) : Dfn (X.blk s H scope cenv fp).prog (X.blk s H scope cenv fp).w (X.blk s H scope cenv fp).K (X.blk s H scope cenv fp).mg (X.blk s H scope cenv fp).base k x sp := h
section
variable {B : Bs} {X : Cx} {G : Sl} {M : Mem} {Q : D → Mem → Prop}
theorem ex_subL {es : List Expr} {b : Expr} {p pos : Pos} (hs : PlainIx b) (h : AX B X es G M fun xs M1 => xs.length ≤ sizeLine ∧ EX B X b G M1 fun y M2 => IX B X (.lst xs) y G M2 Q) : EX B X (.Subscript (.List es p) b pos) G M Q := ex_sub hs (ex_lst h)
/-- an item at a drawn place -/
theorem ix_lm {ds : List D} {i : Int} (h0 : 0 ≤ i) (h1 : i < ds.length) (q : ∀ d, d ∈ ds → Q d M) : IX B X (.lst ds) (.int i) G M Q := by
  obtain ⟨j, rfl⟩ : ∃ j : Nat, i = (j : Int) := ⟨i.toNat, by omega⟩
  have hj : j < ds.length := by omega
  exact ix_l (d := ds[j]) (atI_of rfl (List.getElem?_eq_getElem hj)) (q _ (List.getElem_mem hj))
theorem ix_tm {ds : List D} {i : Int} (h0 : 0 ≤ i) (h1 : i < ds.length) (q : ∀ d, d ∈ ds → Q d M) : IX B X (.tup ds) (.int i) G M Q := by
  obtain ⟨j, rfl⟩ : ∃ j : Nat, i = (j : Int) := ⟨i.toNat, by omega⟩
  have hj : j < ds.length := by omega
  exact ix_t (d := ds[j]) (atI_of rfl (List.getElem?_eq_getElem hj)) (q _ (List.getElem_mem hj))
theorem ix_li {ns : List Int} {i : Int} (h0 : 0 ≤ i) (h1 : i < ns.length) (q : ∀ n, n ∈ ns → Q (.int n) M) : IX B X (.lst (ns.map D.int)) (.int i) G M Q :=
  ix_lm h0 (by rw [List.length_map]; exact h1) fun d hd => by
    obtain ⟨n, hn, rfl⟩ := List.mem_map.mp hd
    exact q n hn
theorem ix_ls {ns : List Str} {i : Int} (h0 : 0 ≤ i) (h1 : i < ns.length) (q : ∀ n, n ∈ ns → Q (.str n) M) : IX B X (.lst (ns.map D.str)) (.int i) G M Q :=
  ix_lm h0 (by rw [List.length_map]; exact h1) fun d hd => by
    obtain ⟨n, hn, rfl⟩ := List.mem_map.mp hd
    exact q n hn
end
end FL

namespace FL
open PySem PySem.Spec PyProof.Rows L2
/-- the promise of a def that only reads the cells, and tells what is immutable -/
def roSp (sp : DSp) : DSp := fun ds M Q => ∃ es Qd, DeepAll M ds es ∧ sp es noM Qd ∧ ∀ d M', Qd d M' → d.imm = true ∧ Q d M
theorem lift_roSp {K : PySem.W.Frag} {sp : DSp} {vs : List V} {H : Hp} {Q : VK} {E : XK} (h : lift K (roSp sp) vs H Q E) : lift K sp vs H Q E := by
  obtain ⟨F, ds, M, Qd, p, ex, me, ⟨es, Qe, dp, q, hq⟩, kk⟩ := h
  have r : R ⟨F, M, H⟩ K F [] H [] M := ⟨⟨rfl, by simp⟩, ex, me, Same.refl F, Kp.refl M H⟩
  refine ⟨H, es, noM, Qe, dp.rp r p, Same.refl H, (fun _ _ z => by cases z), q, fun d M' qd v H' F' s' k' e' m' rp => ?_⟩
  obtain ⟨hi, hd⟩ := hq d M' qd
  have hs : Same H H' := fun a u h => (k' a u h rfl).1
  obtain ⟨F2, s2, r2, p2⟩ := rp.take_in e' hi (r.heap hs)
  exact kk d M hd v H' F2 r2.bf r2.bk r2.ex r2.mem p2
theorem Dfn.ro {P : Program} {w : World} {K : PySem.W.Frag} {mg : Str → Option Value} {base : Heap} {k : Nat} {x : Str} {sp : DSp} (h : Dfn P w K mg base k x sp) : Dfn P w K mg base k x (roSp sp) := by
  obtain ⟨f, fd, ps, F, m, kp, b⟩ := h.ex
  exact ⟨f, fd, ps, F.imp fun vs H Q E h => lift_roSp h, m, kp, b⟩
theorem ro1 {sp : DSp} {ds es : List D} {M : Mem} {Q : D → Mem → Prop} (d0 : D) (dp : DeepAll M ds es) (q : sp es noM fun d _ => d = d0) (hi : d0.imm = true) (k : Q d0 M) : roSp sp ds M Q :=
  ⟨es, _, dp, q, fun d M' e => by subst e; exact ⟨hi, k⟩⟩
theorem eqD_self {d : D} (h : d.okE = true) : eqD d d = true := SeqAt.eqv_refl _ (okE_py d h).2
end FL

/-! enumerate over a tuple -/
namespace FL
open PySem PySem.Spec PyProof.Rows L2
set_option maxHeartbeats 1000000 in
theorem newEnum1 {v : Value} {ob : Obj} {Hh : Heap → Prop} (Bg : Begins v ob Hh) :
    Meets (Builtin.«enumerate.__new__» ⟨[.type "enumerate", v], []⟩) (fun _ R s => Hh s.heap ∧
      R (.ok (.ret (.ref (s.heap.push ob).objs.size))) { s with heap := (s.heap.push ob).push { cls := .type "enumerate", data := .fields #[.none, .bool false, .ref s.heap.objs.size, rawInt 0, .none, .none] } }) :=
  .of_wp fun prog w A R s h => by
    obtain ⟨hp, g, d, tk, os⟩ := s
    obtain ⟨h1, h⟩ := h
    have hsub := sub_enumerate
    have q1 : ∀ {A' : Around} {E : Value → Shared → Prop} {Q : Value → Shared → Prop}, Q (.ref hp.objs.size) ⟨hp.push ob, g, d, tk, os⟩ → wpAny (model prog w) A' (pyIter v) Q E ⟨hp, g, d, tk, os⟩ := fun q => Bg.iter prog w _ _ ⟨hp, g, d, tk, os⟩ _ h1 q
    wp_walk using q1
    refine wpAny_stack_any fun st => wpAny_pure ?_
    split
    · rename_i c _ _ _ _ _
      cases (c == Value.type "enumerate") <;> (wp_walk using q1; exact ⟨_, rfl, h⟩)
    · wp_walk using q1; exact ⟨_, rfl, h⟩
theorem callEnum1 {prog : Program} {w : World} {A : Around} {E : Value → Shared → Prop} {s : Shared} {v : Value} {ob : Obj} {Hh : Heap → Prop} {Q : Value → Shared → Prop} (Bg : Begins v ob Hh) (h1 : Hh s.heap)
    (h : ∀ h', IsEnum h' (s.heap.objs.size + 1) s.heap.objs.size 0 .none → h'.get? s.heap.objs.size = some ob → h'.objs.size = s.heap.objs.size + 2 → (∀ b o, s.heap.get? b = some o → h'.get? b = some o) → Q (.ref (s.heap.objs.size + 1)) { s with heap := h' }) :
    wpAny (model prog w) A (call (.type "enumerate") [v]) Q E s := by
  refine callType_new F.called_enumerate (by decide) (F.typeCall_enumerate_1 _) (F.newCall_enumerate_1 _) (fun obj => F.args_object_init_2 obj _) F.entry_enumerate_new (newEnum1 Bg) ⟨h1, ?_⟩
  have hz : (s.heap.push ob).objs.size = s.heap.objs.size + 1 := Heap.size_push ..
  show _ ∧ _
  rw [hz]
  have he : IsEnum ((s.heap.push ob).push { cls := .type "enumerate", data := .fields #[.none, .bool false, .ref s.heap.objs.size, rawInt 0, .none, .none] }) (s.heap.objs.size + 1) s.heap.objs.size 0 .none := by
    have z := Heap.get?_push_size (s.heap.push ob) (o := { cls := .type "enumerate", data := .fields #[.none, .bool false, .ref s.heap.objs.size, rawInt 0, .none, .none] }) rfl
    rw [hz] at z
    exact z
  exact ⟨⟨_, he, rfl⟩, h _ he (Heap.get?_push_of_some _ (Heap.get?_push_size _ Bg.free)) (by rw [Heap.size_push, hz]) fun b o x => Heap.get?_push_of_some _ (Heap.get?_push_of_some _ x)⟩
/-- a tuple at a, each item in a new pair -/
def IteT (K : PySem.W.Frag) (a : Addr) : It :=
  ⟨fun i H => ∃ (xs : List V) (x : V), SqT K H a xs ∧ xs[i]? = some x, fun i H v H' => ∃ T x, v = .ref T ∧ H T = none ∧ H' = upd H T (.tup [.int (i : Nat), x]) ∧ ∀ xs, SqT K H a xs → xs[i]? = some x, fun i H => ∃ xs : List V, SqT K H a xs ∧ xs.length ≤ i⟩
theorem tup_ne_iter {h : Heap} {a it t : Addr} {items : Array Value} {i : Nat} (p : h.IsTuple a items) (q : h.IsTupleIter it t i) : a ≠ it := fun e => by
  obtain ⟨o, h1, c1, _⟩ := p
  obtain ⟨u, h2, c2, _⟩ := q
  rw [e, h2] at h1
  cases h1
  rw [c2] at c1
  exact absurd (Value.type.inj c1) (by decide)
theorem tup_ne_enum {h : Heap} {a e it : Addr} {items : Array Value} {i : Int} {old : Value} (p : h.IsTuple a items) (q : IsEnum h e it i old) : a ≠ e := fun z => by
  obtain ⟨o, h1, c1, _⟩ := p
  rw [z, q] at h1
  cases h1
  exact absurd (Value.type.inj c1) (by decide)
theorem turn_enumT {P : Program} {w : World} {K : PySem.W.Frag} {elts : List Expr} {kk : Nat} {tpos : Pos} (a e it : Addr) :
    Turn P w K (.Tuple elts kk tpos) (IteT K a) [e, it] e (fun i h => (∃ old, IsEnum h e it ((i : Nat) : Int) old) ∧ h.IsTupleIter it a i ∧ e ≠ it) where
  mem := by simp
  obj := fun i h st b hb => by
    obtain ⟨⟨old, he⟩, ⟨o, ho, hc, hd⟩, _⟩ := st
    rcases (by simpa using hb : b = e ∨ b = it) with z | z
    · rw [z]; exact ⟨_, he, fun v q => nomatch q⟩
    · rw [z]; exact ⟨o, ho, fun v q => by rw [hd] at q; cases q⟩
  keep := fun i h h' st k => by
    obtain ⟨⟨old, he⟩, hi, hne⟩ := st
    exact ⟨⟨old, k e (by simp) _ he⟩, hi.at fun o q => k it (by simp) o q, hne⟩
  item := by
    intro X hP hw hK hc i pins s σ H E I hf st hg
    subst hP; subst hw; subst hK
    obtain ⟨⟨old, he⟩, hit, hne⟩ := st
    obtain ⟨xs, x, hq, hx⟩ := hg
    obtain ⟨its, rv, p, hz⟩ := I.tuple hq
    have p' : s.heap.IsTuple a its.toArray := p
    obtain ⟨u, hu, ru⟩ := rv.get hx
    have hel : e < s.heap.objs.size := Heap.lt_size he
    have hil : it < s.heap.objs.size := by obtain ⟨_, q, _⟩ := hit; exact Heap.lt_size q
    have n1 := tup_ne_iter p' hit
    have n2 := tup_ne_enum p' he
    have hlt : i < its.toArray.size := by
      have := (List.getElem?_eq_some_iff.mp hu).1
      simpa using this
    refine wpAny_pyNext_enum_itemD (Draws.tuple (prog := X.prog) (w := X.w) (A := X.A.in1) (I.ok.hd hc) it a n1 its.toArray) he ⟨hit, p'⟩ hlt hne (by simp only [List.mem_cons, List.not_mem_nil, or_false, not_or]; exact ⟨hne, Ne.symm n2⟩) fun y h' tk hy ho st2 hT hsz hk => ?_
    have ey : y = u := by
      have z : its.toArray[i]? = some u := by simpa using hu
      rw [z] at hy
      exact (Option.some.inj hy).symm
    subst ey
    refine ⟨_, rfl, wpAny_letOwnedTupleGo_enum (s := { s with heap := h', toks := tk + 1 }) ho fun h'' he' sb => ?_⟩
    have hT2 : h''.get? s.heap.objs.size = some { cls := .type "tuple", data := .seq #[.int i tk, y] } := (sb.2 _ (Nat.ne_of_gt hel)).trans hT
    have new : ObjOk X.prog X.w (upd H s.heap.objs.size (.tup [.int (i : Nat), x])) h'' s.heap.objs.size (.tup [.int (i : Nat), x]) :=
      ⟨(by show 2 ≤ sizeLine; decide), [.int i tk, y], .cons ⟨_, rfl⟩ (.cons ru .nil), ⟨_, hT2, rfl, _, rfl⟩⟩
    have I1 : Inv X pins σ (upd H s.heap.objs.size (.tup [.int (i : Nat), x])) { s with heap := h'', toks := tk + 1 } :=
      I.turnedNew (ch := [e, it]) (fun b ob hb q => (sb.2 b (fun z => hb (by simp [z]))).trans (hk b ob (fun z => hb (by simp [z])) (fun z => hb (by simp [z])) q)) hf (Nat.le_refl _) new
    refine ⟨.ref s.heap.objs.size, _, I1, rfl, ⟨_, x, rfl, I.hok.fresh (Nat.le_refl _), rfl, fun ys hy => by rw [I.tuple_inj hy hq]; exact hx⟩, ⟨⟨y, ?_⟩, st2.1.at fun o q => (sb.2 it (Ne.symm hne)).trans q, hne⟩, fun b hb => ?_⟩
    · have e1 : ((i + 1 : Nat) : Int) = (i : Int) + 1 := by omega
      rw [e1]; exact he'
    · have hb' : b < s.heap.objs.size := by
        rcases (by simpa using hb : b = e ∨ b = it) with z | z
        · rw [z]; exact hel
        · rw [z]; exact hil
      rw [upd_ne (Nat.ne_of_lt hb')]
      exact (hf b hb).1
  done := by
    intro X hP hw hK hc i pins s σ H E I hf st hg
    subst hP; subst hw; subst hK
    obtain ⟨⟨old, he⟩, hit, hne⟩ := st
    obtain ⟨xs, hq, hx⟩ := hg
    obtain ⟨its, rv, p, hz⟩ := I.tuple hq
    have p' : s.heap.IsTuple a its.toArray := p
    obtain ⟨f0, f1, f2, f3, f4, f5⟩ := hf it (by simp)
    have hl := rv.length
    have n1 := tup_ne_iter p' hit
    have hT : s.TypeIs (.ref e) "enumerate" := ⟨_, he, rfl⟩
    unfold pyNext
    refine wpAny_bind (wpAny_attempt (wpAny_callSpecial?_slot (name := Str.ofString "__next__") hT F.slot_enumerate_next (wpAny_call_entry F.slot_enumerate_next hT F.entry_enumerate_next ?_ (F.args_enumerate_next_1 _))))
    show wpAny _ _ (field (.ref e) 2 >>= _) _ _ _
    refine wpAny_bind (wpAny_field he rfl (x := .ref it) rfl ?_)
    refine wpAny_bind (wpAny_nextOf_tuple_end (I.ok.hd hc) hit p' (by simp; omega) fun h' x he' hx' => ?_)
    obtain ⟨o, ho, hc2⟩ := hx'
    refine wpAny_bind (wpAny_isInstance (T := "StopIteration") (b := true) ⟨o, ho, hc2⟩ isSubtype_stop ?_)
    exact wpAny_pure ⟨rfl, I.turned (t' := s.toks) (fun b o hb q => he' b o hb q) f0 f1 f3 f4 f5⟩
  self := fun A i s Q E st h => by
    obtain ⟨⟨_, he⟩, _⟩ := st
    exact wpAny_pyIter_enum he h
def iEnumT (K : PySem.W.Frag) (ta : TA) : TI := fun σ H R => ta σ H fun vs H1 => ∃ a xs, vs = [.ref a] ∧ SqT K H1 a xs ∧ R (IteT K a) H1
theorem pi_enumT {X : Cx} {e : Expr} {ta : TA} {p pos tpos : Pos} {elts : List Expr} {kk : Nat} (hg : Gl X "enumerate") (hm : X.mg "enumerate" = none) (ha : PA X [e] ta) (hs : starEach [e] X.env = [(false, eval e X.env)]) :
    PI X (.Tuple elts kk tpos) (.Call (.Name "enumerate" p) [e] [] pos) (iEnumT X.K ta) := by
  refine ⟨fun pins s σ H R I h => ?_⟩
  refine Call_ (ld_blt I hg hm boot_enumerate (PyProof.Rows.callWith_type1 (thn (ha.run pos pins s σ H _ I h) fun us s1 ⟨vs, H1, I1, r1, q1⟩ => ?_) hs rfl))
  obtain ⟨a, xs, ex, hq, q⟩ := q1
  subst ex
  cases r1 with
  | cons r rr =>
    cases rr
    cases r
    obtain ⟨its, rv, p', hz⟩ := I1.tuple hq
    refine callEnum1 (begins_tuple a its.toArray) p' fun h' he hit hsz hk => wpAny_pyIter_enum he ?_
    have I2 : Inv X pins σ H1 { s1 with heap := h' } := I1.kept (t' := s1.toks) hk
    refine ⟨s1.heap.objs.size + 1, [s1.heap.objs.size + 1, s1.heap.objs.size], _, _, H1, rfl, I2, turn_enumT a (s1.heap.objs.size + 1) s1.heap.objs.size, ⟨⟨.none, he⟩, ⟨_, hit, rfl, rfl⟩, Nat.succ_ne_self _⟩, fun b hb => ?_, q⟩
    have hle : s1.heap.objs.size ≤ b := by
      rcases (by simpa using hb : b = s1.heap.objs.size + 1 ∨ b = s1.heap.objs.size) with z | z
      · rw [z]; exact Nat.le_add_right _ _
      · rw [z]; exact Nat.le_refl _
    exact I1.fpOk hle (I1.hok.fresh hle)
section
variable {B : Bs} {X : Cx} {e tg : Expr} {G : Sl} {M : Mem} {Q : List D → Mem → Prop} {pos p : Pos} {F : Hp} {σ : L2.St}
theorem wk_enumT {K : PySem.W.Frag} {a : Addr} {xs : List V} {ds : List D} (h : SqT K F a xs) (r : RpAll K F xs ds) : Wk K F (IteT K a) (enumD ds) where
  goes := fun i H hi s => by
    rw [enumD_len] at hi
    exact ⟨xs, xs[i]'(by rw [r.length]; exact hi), sq_same s h, by simp [r.length, hi]⟩
  stops := fun H s => ⟨xs, sq_same s h, by rw [r.length, enumD_len]; exact Nat.le_refl _⟩
  yields := fun i H x H' hi s y => by
    obtain ⟨T, u, h1, h2, h3, h4⟩ := y
    subst h1; subst h3
    obtain ⟨d, hd, rd⟩ := r.getV (h4 xs (sq_same s h))
    exact ⟨_, enumD_get hd, fun B F1 σ G M s1 r1 => pair_new r1 h2 (.int _) (rd.mono s1)⟩
theorem lx_enumT (hg : Gl X "enumerate") (hm : X.mg "enumerate" = none) (hs : starEach [e] X.env = [(false, eval e X.env)]) (ht : ∃ es k pp, tg = .Tuple es k pp)
    (h : EX B X e G M fun d M1 => ∃ ds, d = .tup ds ∧ Q (enumD ds) M1) : LX B X tg (.Call (.Name "enumerate" p) [e] [] pos) G M Q := fun F σ H R' r k => by
  obtain ⟨es, kk, pp, rfl⟩ := ht
  refine WIt.of (pi_enumT hg hm (pa_cons pe_we pa_nil (by rw [hs]; rfl)) hs) (h F σ H _ r fun v H1 F1 d1 M1 ⟨ds, e1, q⟩ s1 r1 p1 => ?_)
  subst e1
  cases p1 with
  | @tup a xs _ hs rs => exact ⟨a, xs, rfl, sq_same r1.ex hs, k _ _ F1 _ M1 q s1 r1 (wk_enumT hs rs)⟩
end
end FL

/-! sequences: +, *, slices, max, methods of lists -/
namespace FL
open PySem PySem.Spec PyProof.Rows L2
/-- a list of ds: frozen, or a cell -/
def IsL (M : Mem) (d : D) (ds : List D) : Prop := d = .lst ds ∨ ∃ l, d = .ref l ∧ M l = some (.lst ds)
theorem IsL.fz {M : Mem} {ds : List D} : IsL M (.lst ds) ds := .inl rfl
theorem IsL.ce {M : Mem} {l : Addr} {ds : List D} (h : M l = some (.lst ds)) : IsL M (.ref l) ds := .inr ⟨l, rfl, h⟩
/-- the cells are there as they were -/
def Ext (M M' : Mem) : Prop := ∀ a o, M a = some o → M' a = some o
theorem Ext.refl (M : Mem) : Ext M M := fun _ _ h => h
theorem Ext.trans {M M1 M2 : Mem} (h : Ext M M1) (g : Ext M1 M2) : Ext M M2 := fun a o e => g a o (h a o e)
theorem Ext.new {M : Mem} {l : Addr} {o : MO} (h : M l = none) : Ext M (mupd M l o) := fun a u e => by rw [mupd_ne (mne e h)]; exact e
theorem Ext.del {M M' : Mem} {l : Addr} (h : M l = none) (e : Ext M M') : Ext M (mdel M' l) := fun a u q => by
  unfold mdel
  rw [if_neg (mne q h)]
  exact e a u q
theorem Ext.free {M M' : Mem} {l : Addr} (e : Ext M M') (h : M' l = none) : M l = none := by
  cases q : M l with
  | none => rfl
  | some o => rw [e l o q] at h; cases h
section
variable {B : Bs} {X : Cx} {G : Sl} {M : Mem} {Q : D → Mem → Prop} {F H : Hp} {σ : L2.St} {d d2 : D} {ds es : List D} {v : V} {e : Expr} {pos p2 apos : Pos} {lo hi : Option Expr} {K : PySem.W.Frag}
theorem IsL.at (h : IsL M d ds) (r : R B K F σ H G M) (p : Rp K F v d) : ∃ a xs, v = .ref a ∧ H a = some (.lst xs) ∧ RpAll K F xs ds := by
  rcases h with rfl | ⟨l, rfl, hm⟩
  · cases p with
    | @lst a xs _ hs rs => exact ⟨a, xs, rfl, r.ex _ _ hs, rs⟩
  · cases p
    obtain ⟨_, xs, hx, rx⟩ := r.mem l _ hm
    exact ⟨l, xs, rfl, hx, rx⟩
/-! ### + -/
theorem ox_catL (h1 : IsL M d ds) (h2 : IsL M d2 es) (hl : ds.length + es.length ≤ sizeLine) (q : Q (.lst (ds ++ es)) M) : OX B X (binaryOp .Add) d d2 G M Q := fun F σ H Q' v w r p1 p2 k => by
  obtain ⟨a, xs, rfl, hx, rx⟩ := h1.at r p1
  obtain ⟨b, ys, rfl, hy, ry⟩ := h2.at r p2
  exact WO.of op_cat ⟨a, b, xs, ys, rfl, rfl, hx, hy, by rw [rx.length, ry.length]; exact hl, fun p hp => k.new r hp q (.lst upd_same ((rx.append ry).mono (r.new hp).1))⟩
theorem ox_catLM (h1 : IsL M d ds) (h2 : IsL M d2 es) (hl : ds.length + es.length ≤ sizeLine) (q : ∀ l, M l = none → Q (.ref l) (mupd M l (.lst (ds ++ es)))) : OX B X (binaryOp .Add) d d2 G M Q := fun F σ H Q' v w r p1 p2 k => by
  obtain ⟨a, xs, rfl, hx, rx⟩ := h1.at r p1
  obtain ⟨b, ys, rfl, hy, ry⟩ := h2.at r p2
  exact WO.of op_cat ⟨a, b, xs, ys, rfl, rfl, hx, hy, by rw [rx.length, ry.length]; exact hl, fun p hp => k.cell r hp (q p (r.freeM hp)) ⟨_, upd_same, rx.append ry⟩⟩
theorem RpAll.nil_iff {xs : List V} (r : RpAll K F xs ds) : xs = [] ↔ ds = [] := by cases r <;> simp
theorem ox_catT (hl : ds.length + es.length ≤ sizeLine) (q : Q (.tup (ds ++ es)) M) : OX B X (binaryOp .Add) (.tup ds) (.tup es) G M Q := fun F σ H Q' v w r p1 p2 k => by
  cases p1 with
  | @tup a xs _ ha ra =>
    cases p2 with
    | @tup b ys _ hb rb =>
      refine WO.of op_catA ⟨a, b, xs, ys, rfl, rfl, sq_same r.ex ha, sq_same r.ex hb, by rw [ra.length, rb.length]; exact hl, fun z => ?_, fun z z2 => ?_, fun z z2 p hp => ?_⟩
      · have e := ra.nil_iff.mp z
        subst e
        exact k.at r q (.tup hb rb)
      · have e := rb.nil_iff.mp z2
        subst e
        rw [List.append_nil] at q
        exact k.at r q (.tup ha ra)
      · exact k.new r hp q (.tup sq_upd ((ra.append rb).mono (r.new hp).1))
/-! ### * -/
theorem RpAll.rep {n : Nat} {x : V} (h : Rp K F x d) : RpAll K F (List.replicate n [x]).flatten (List.replicate n d) := by
  induction n with
  | zero => exact .nil
  | succ n ih => exact .cons h ih
theorem ox_repL {n : Int} (h1 : n < 100000) (q : Q (.lst (List.replicate n.toNat d)) M) (h0 : 0 ≤ n) : OX B X (binaryOp .Mult) (.lst [d]) (.int n) G M Q := fun F σ H Q' v w r p1 p2 k => by
  cases p2
  obtain ⟨a, xs, rfl, hx, rx⟩ := IsL.fz.at r p1
  obtain ⟨x, rfl, px⟩ := rp1 rx
  refine WO.of op_rep ⟨a, n, [x], rfl, rfl, hx, by omega, by omega, ?_, fun p hp => k.new r hp q (.lst upd_same ((RpAll.rep px).mono (r.new hp).1))⟩
  have : (sizeLine : Nat) ≥ 100000 := by decide
  simp; omega
theorem ox_repLM {n : Int} (h1 : n < 100000) (h0 : 0 ≤ n) (q : ∀ l, M l = none → Q (.ref l) (mupd M l (.lst (List.replicate n.toNat d)))) : OX B X (binaryOp .Mult) (.lst [d]) (.int n) G M Q := fun F σ H Q' v w r p1 p2 k => by
  cases p2
  obtain ⟨a, xs, rfl, hx, rx⟩ := IsL.fz.at r p1
  obtain ⟨x, rfl, px⟩ := rp1 rx
  refine WO.of op_rep ⟨a, n, [x], rfl, rfl, hx, by omega, by omega, ?_, fun p hp => k.cell r hp (q p (r.freeM hp)) ⟨_, upd_same, RpAll.rep px⟩⟩
  have : (sizeLine : Nat) ≥ 100000 := by decide
  simp; omega
theorem tuple_mul1 (l : Addr) (items : Array Value) (n : Nat) (dd : Option Addr) (sl : Array (Option Value)) (u : Tok) :
    Meets (Builtin.«tuple.__mul__» ⟨[.ref l, .int 1 u], []⟩) (fun _ R s => s.heap.get? l = some { cls := .type "tuple", dict := dd, data := .seq items n, slots := sl } ∧ R (.ok (.ret (Value.ref l))) s) :=
  .of_wp fun prog w A R s h => by
    obtain ⟨hp, g, d, tk, os⟩ := s
    obtain ⟨hl, h⟩ := h
    have f1 := AutoSeq1.idx_int
    have c1 : (items.isEmpty || (1 : Int) == 1) = true := by simp
    wp_walk using AutoSeq1.wpAny_loadPart' hl
    repeat (first
      | (refine wpAny_ite_false (decide_eq_false (by decide)) ?_; wp_walk using AutoSeq1.wpAny_loadPart' hl)
      | (refine wpAny_ite_true (decide_eq_true c1) ?_; wp_walk using AutoSeq1.wpAny_loadPart' hl))
    exact ⟨_, rfl, h⟩
theorem op_rep1 : OpR X (binaryOp .Mult) (fun x y H Q => ∃ l xs, x = .ref l ∧ y = .int 1 ∧ SqT X.K H l xs ∧ Q (.ref l) H) := by
  intro pins s σ H x y v u Q I rx ry h
  obtain ⟨l, xs, rfl, rfl, hT, q⟩ := h
  cases rx
  obtain ⟨t, rfl⟩ := ry
  obtain ⟨its, r, ⟨⟨cls, dd, data, sl⟩, ho, hc, n, hd⟩, hs⟩ := I.tuple hT
  simp only at hc hd
  subst hc
  subst hd
  exact wpAny_binaryOp_repeat_ref (T := "tuple") (U := "int") (by decide) ⟨_, ho, rfl⟩ (fun s' => typeIs_int s' 1 t) noFill_tuple_mul F.fills_int_mul F.slot_int_rmul repeat_tuple F.slot_int_index.lookup
    (call_meets F.slot_int_rmul (typeIs_int s 1 t) F.entry_int_rmul (F.args_int_rmul_2 _ _) (int_rmul_tuple 1 t l its.toArray n dd sl)
      ⟨ho, rfl, ⟨_, ho, rfl⟩, call_meets F.slot_tuple_mul ⟨_, ho, rfl⟩ F.entry_tuple_mul (F.args_tuple_mul_2 _ _) (tuple_mul1 l its.toArray n dd sl t) ⟨ho, .ref l, H, I, rfl, q⟩⟩)
theorem ox_repT {n : Int} (h0 : 1 ≤ n) (h1 : n ≤ 1000) (q : Q (.tup (List.replicate n.toNat d)) M) : OX B X (binaryOp .Mult) (.tup [d]) (.int n) G M Q := fun F σ H Q' v w r p1 p2 k => by
  cases p2
  cases p1 with
  | @tup a xs _ ha ra =>
    obtain ⟨x, rfl, px⟩ := rp1 ra
    by_cases hn : n = 1
    · subst hn
      exact WO.of op_rep1 ⟨a, [x], rfl, rfl, sq_same r.ex ha, k.at r q (.tup ha ra)⟩
    · exact WO.of op_repT ⟨a, n, [x], rfl, rfl, sq_same r.ex ha, by simp, by omega, h1, by simp, fun p hp => k.new r hp q (.tup sq_upd ((RpAll.rep px).mono (r.new hp).1))⟩
theorem ex_binL {es : List Expr} {b : Expr} {op : Operator} {p : Pos} (h : AX B X es G M fun xs M1 => xs.length ≤ sizeLine ∧ EX B X b G M1 fun y M2 => OX B X (binaryOp op) (.lst xs) y G M2 Q) : EX B X (.BinOp (.List es p) op b pos) G M Q := ex_bin (ex_lst h)
theorem ex_binR {es : List Expr} {a : Expr} {op : Operator} {p : Pos} (h : EX B X a G M fun x M1 => AX B X es G M1 fun ys M2 => ys.length ≤ sizeLine ∧ OX B X (binaryOp op) x (.lst ys) G M2 Q) : EX B X (.BinOp a op (.List es p) pos) G M Q := ex_bin (h.imp fun _ _ h => ex_lst h)
theorem ux_neg {i : Int} (q : Q (.int (-i)) M) : UX B X (unaryOp .USub) (.int i) G M Q := fun F σ H Q' v r p k => by
  cases p
  exact WU.of un_neg ⟨i, rfl, k.at r q (.int _)⟩
/-! ### slices -/
def cutD (ds : List D) (lo hi : Option Int) : List D := (ds.drop (HT.sIx ds.length 0 lo)).take (HT.sIx ds.length ds.length hi - HT.sIx ds.length 0 lo)
theorem cut_rp {xs : List V} {l u : Option Int} (r : RpAll K F xs ds) : RpAll K F (cutV xs l u) (cutD ds l u) := by
  unfold cutV cutD
  rw [r.length]
  exact (r.drop _).take _
def WSl (X : Cx) : V → Option Int → Option Int → Hp → VK → Prop := fun x lo hi H Q => ∀ (pins : List (Addr × Obj)) (s : Shared) (σ : L2.St) (v vl vu : Value) (sl : Addr), Inv X pins σ H s → RelV x v → s.heap.IsSliceOf sl vl vu .none → IsPart vl lo → IsPart vu hi →
    ∃ T id, typeLookup (.type T) "__getitem__" = pure (some (.builtin id)) ∧ s.TypeIs v T ∧ wpAny (model X.prog X.w) X.A (getItem v (.ref sl)) (EP X pins σ Q) X.xe s
theorem sl_wsl : SlR X (WSl X) := fun pins s σ _ _ v vl vu _ _ sl _ I rx hs pl pu h => h pins s σ v vl vu sl I rx hs pl pu
theorem WSl.of {r : V → Option Int → Option Int → Hp → VK → Prop} {x : V} {l u : Option Int} {H : Hp} {Q : VK} (h : SlR X r) (q : r x l u H Q) : WSl X x l u H Q := fun pins s σ v vl vu sl I rx hs pl pu => h pins s σ H x v vl vu l u sl Q I rx hs pl pu q
def WPO (X : Cx) : Option Expr → TO
  | none => tNoPart
  | some e => tPart (WE X e)
theorem po_wpo : ∀ {p : Option Expr}, PO X p (WPO X p)
  | none => po_none
  | some _ => po_some pe_we
def POX (B : Bs) (X : Cx) : Option Expr → Sl → Mem → (Option Int → Mem → Prop) → Prop
  | none, _, M, Q => Q none M
  | some e, G, M, Q => EX B X e G M fun d M1 => ∃ i, d = .int i ∧ Q (some i) M1
theorem pox_none {Q : Option Int → Mem → Prop} (q : Q none M) : POX B X none G M Q := q
theorem pox_some {Q : Option Int → Mem → Prop} (h : EX B X e G M fun d M1 => ∃ i, d = .int i ∧ Q (some i) M1) : POX B X (some e) G M Q := h
theorem pox_ok {Q : Option Int → Mem → Prop} {Q' : Option Int → Hp → Prop} : ∀ {p : Option Expr}, POX B X p G M Q → R B X.K F σ H G M → (∀ o H' F' M', Q o M' → Same F F' → R B X.K F' σ H' G M' → Q' o H') → WPO X p σ H Q'
  | none, h, r, k => k none H F M h (Same.refl F) r
  | some e, h, r, k => h F σ H _ r fun v H1 F1 d1 M1 ⟨i, e1, q⟩ s1 r1 p1 => by
    subst e1
    cases p1
    exact ⟨i, rfl, k (some i) H1 F1 M1 q s1 r1⟩
def SLX (B : Bs) (X : Cx) (d : D) (lo hi : Option Int) (G : Sl) (M : Mem) (Q : D → Mem → Prop) : Prop := ∀ F σ H Q' v, R B X.K F σ H G M → Rp X.K F v d → KE B X F σ G Q Q' → WSl X v lo hi H Q'
theorem ex_slice (h : EX B X e G M fun d M1 => POX B X lo G M1 fun l M2 => POX B X hi G M2 fun u M3 => SLX B X d l u G M3 Q) : EX B X (.Subscript e (.Slice lo hi none p2) pos) G M Q := fun F σ H Q' r k =>
  WE.of (pe_slice sl_wsl pe_we po_wpo po_wpo) (h F σ H _ r fun v1 H1 F1 d1 M1 q1 s1 r1 p1 => pox_ok q1 r1 fun l H2 F2 M2 q2 s2 r2 => pox_ok q2 r2 fun u H3 F3 M3 q3 s3 r3 =>
    q3 F3 σ H3 Q' v1 r3 (p1.mono (s2.trans s3)) (k.mono (s1.trans (s2.trans s3))))
theorem slx_t {l u : Option Int} (q : Q (.tup (cutD ds l u)) M) : SLX B X (.tup ds) l u G M Q := fun F σ H Q' v r p k => by
  cases p with
  | @tup a xs _ ha ra =>
    refine WSl.of sl_tupA ⟨a, xs, rfl, sq_same r.ex ha, fun z => ?_, fun z p hp => k.new r hp q (.tup sq_upd ((cut_rp ra).mono (r.new hp).1))⟩
    rw [ra.length] at z
    have e : cutD ds l u = ds := by
      unfold cutD
      rw [z.1, z.2]; simp
    rw [e] at q
    exact k.at r q (.tup ha ra)
theorem slx_l {l u : Option Int} (hL : IsL M d ds) (q : Q (.lst (cutD ds l u)) M) : SLX B X d l u G M Q := fun F σ H Q' v r p k => by
  obtain ⟨a, xs, rfl, hx, rx⟩ := hL.at r p
  exact WSl.of sl_list ⟨a, xs, rfl, SqL.of hx, fun p hp => k.new r hp q (.lst upd_same ((cut_rp rx).mono (r.new hp).1))⟩
theorem slx_lM {l u : Option Int} (hL : IsL M d ds) (q : ∀ c, M c = none → Q (.ref c) (mupd M c (.lst (cutD ds l u)))) : SLX B X d l u G M Q := fun F σ H Q' v r p k => by
  obtain ⟨a, xs, rfl, hx, rx⟩ := hL.at r p
  exact WSl.of sl_list ⟨a, xs, rfl, SqL.of hx, fun p hp => k.cell r hp (q p (r.freeM hp)) ⟨_, upd_same, cut_rp rx⟩⟩
theorem slx_s {z : Str} {l u : Option Int} (hz : z.length ≤ sizeLine) (q : Q (.str (cutS z l u)) M) : SLX B X (.str z) l u G M Q := fun F σ H Q' v r p k => by
  cases p
  exact WSl.of sl_str ⟨z, rfl, hz, k.at r q (.str _)⟩
theorem cutD_to {n : Nat} (h : n ≤ ds.length) : cutD ds none (some (n : Int)) = ds.take n := by
  unfold cutD
  rw [HT.sIx_none, HT.sIx_nat, Nat.min_eq_left h]; simp
theorem cutD_from {n : Nat} (h : n ≤ ds.length) : cutD ds (some (n : Int)) none = ds.drop n := by
  unfold cutD
  rw [HT.sIx_none, HT.sIx_nat, Nat.min_eq_left h]
  exact List.take_of_length_le (by rw [List.length_drop]; exact Nat.le_refl _)
theorem cutD_at {n m : Nat} (h : m ≤ ds.length) (h2 : n ≤ m) : cutD ds (some (n : Int)) (some (m : Int)) = (ds.drop n).take (m - n) := by
  unfold cutD
  rw [HT.sIx_nat, HT.sIx_nat, Nat.min_eq_left h, Nat.min_eq_left (Nat.le_trans h2 h)]
/-! ### max, min of lists of ints -/
theorem bx_maxL {ns : List Int} (hc : X.calm = true) (hL : IsL M d (ns.map D.int)) (hn : ns ≠ []) (q : ∀ m, m ∈ ns → (∀ y ∈ ns, y ≤ m) → Q (.int m) M) : BX B X (.builtin "max") [d] G M Q := fun F σ H Q' vs r pa kk => by
  obtain ⟨v, rfl, rp⟩ := rp1 pa
  obtain ⟨a, xs, rfl, hx, rx⟩ := hL.at r rp
  have e := RpAll.ints_of rx
  subst e
  exact WC.of (cr_max hc) ⟨a, ns, rfl, SqL.of hx, List.length_pos_iff.mpr hn, fun m h1 h2 => kk.at r (q m h1 h2) (.int m)⟩
theorem bx_minL {ns : List Int} (hc : X.calm = true) (hL : IsL M d (ns.map D.int)) (hn : ns ≠ []) (q : ∀ m, m ∈ ns → (∀ y ∈ ns, m ≤ y) → Q (.int m) M) : BX B X (.builtin "min") [d] G M Q := fun F σ H Q' vs r pa kk => by
  obtain ⟨v, rfl, rp⟩ := rp1 pa
  obtain ⟨a, xs, rfl, hx, rx⟩ := hL.at r rp
  have e := RpAll.ints_of rx
  subst e
  exact WC.of (cr_min hc) ⟨a, ns, rfl, SqL.of hx, List.length_pos_iff.mpr hn, fun m h1 h2 => kk.at r (q m h1 h2) (.int m)⟩
theorem bx_lenI (hL : IsL M d ds) (q : Q (.int (ds.length : Nat)) M) : BX B X (.builtin "len") [d] G M Q := by
  rcases hL with rfl | ⟨l, rfl, hm⟩
  · exact bx_lenL q
  · exact bx_lenC hm q
theorem bx_listI (hL : IsL M d ds) (q : Q (.lst ds) M) : BX B X (.type "list") [d] G M Q := by
  rcases hL with rfl | ⟨l, rfl, hm⟩
  · exact bx_listL q
  · exact bx_listC hm q
/-! ### methods of list cells -/
theorem mx_extend {l : Addr} (hm : M l = some (.lst ds)) (hL : IsL M d es) (hne : d ≠ .ref l) (hl : ds.length + es.length ≤ sizeLine) (q : Q .non (mupd M l (.lst (ds ++ es)))) : MX B X "list.extend" (.ref l) [d] G M Q := fun F σ H Q' v vs r p1 pa kk => by
  obtain ⟨v2, rfl, rp⟩ := rp1 pa
  cases p1
  obtain ⟨_, xs, hx, rx⟩ := r.mem l _ hm
  obtain ⟨a, ys, rfl, hy, ry⟩ := hL.at r rp
  exact WM.of mt_extend ⟨l, a, xs, ys, rfl, rfl, hx, hy, by rw [rx.length, ry.length]; exact hl, kk _ _ F _ _ q (Same.refl F) (r.write hm ⟨_, upd_same, rx.append ry⟩) .non⟩
theorem mx_popAt {l : Addr} {i : Nat} (hm : M l = some (.lst ds)) (hi : ds[i]? = some d) (hs : i < 1000000) (q : Q d (mupd M l (.lst (ds.eraseIdx i)))) : MX B X "list.pop" (.ref l) [.int (i : Nat)] G M Q := fun F σ H Q' v vs r p1 pa kk => by
  obtain ⟨v2, rfl, rp⟩ := rp1 pa
  cases p1
  cases rp
  obtain ⟨_, xs, hx, rx⟩ := r.mem l _ hm
  obtain ⟨y, hy, ry⟩ := rx.get hi
  have hlt : i < xs.length := (List.getElem?_eq_some_iff.mp hy).1
  refine WM.of mt_popAt ⟨l, xs, i, i, y, rfl, rfl, hx, by omega, by omega, ?_, hy, kk _ _ F _ _ q (Same.refl F) (r.write hm ⟨_, upd_same, rx.eraseIdx i⟩) ry⟩
  have h0 : ¬ ((i : Int) < 0) := by omega
  unfold seqIndex?
  simp [hlt, h0]
theorem mx_clear {l : Addr} (hm : M l = some (.lst ds)) (q : Q .non (mupd M l (.lst []))) : MX B X "list.clear" (.ref l) [] G M Q := fun F σ H Q' v vs r p1 pa kk => by
  cases pa
  cases p1
  obtain ⟨_, xs, hx, rx⟩ := r.mem l _ hm
  exact WM.of mt_clear ⟨l, xs, rfl, rfl, hx, kk _ _ F _ _ q (Same.refl F) (r.write hm ⟨_, upd_same, .nil⟩) .non⟩
/-- index of a flat item -/
theorem mx_index {j : Nat} (hL : IsL M d es) (hf : d2.flat = true) (ha : es.all D.flat = true) (hj : ∃ z, es[j]? = some z ∧ eqV z.toV d2.toV = true) (hno : ∀ m z, m < j → es[m]? = some z → eqV z.toV d2.toV = false) (q : Q (.int (j : Nat)) M) : MX B X "list.index" d [d2] G M Q := fun F σ H Q' v vs r p1 pa kk => by
  obtain ⟨v2, rfl, rp⟩ := rp1 pa
  obtain ⟨a, ys, rfl, hy, ry⟩ := hL.at r p1
  obtain ⟨e1, f1⟩ := rp.flat hf
  obtain ⟨e2, f2⟩ := ry.flat ha
  subst e1; subst e2
  obtain ⟨z, hz, hzz⟩ := hj
  refine WM.of mt_index ⟨a, es.map D.toV, d2.toV, j, z.toV, rfl, rfl, SqL.of hy, f1, f2, by rw [List.getElem?_map, hz]; rfl, hzz, fun m z' hm hz' => ?_, kk.at r q (.int _)⟩
  rw [List.getElem?_map] at hz'
  obtain ⟨z0, h0, rfl⟩ := Option.map_eq_some_iff.mp hz'
  exact hno m z0 hm h0
/-- a method of a built-in list; the receiver a list, frozen or a cell -/
theorem ex_bmL {o : Expr} {es : List Expr} {name : Str} {id : String} (slot : Slot "list" name id) (hty : typeOf (.builtin id) = pure (.type "method_descriptor"))
    (hbase : attributeBase o name X.env (eval o X.env) = eval o X.env)
    (hfew : ((backTo pos (starEach (e :: es) X.env)).all (fun x => !x.1) && (backToKw pos (keywordEach [] X.env)).all (fun x => x.1.isSome)
      && decide ((e :: es).length + ([] : List Keyword).length + (if ([] : List Keyword).isEmpty then 0 else 1) < 30)) = true)
    (hline : (apos.endLine == pos.line) = true) (hs : starEach (e :: es) X.env = (false, eval e X.env) :: starEach es X.env) (hplain : (backTo pos (starEach es X.env)).any (·.1) = false)
    (h : EX B X o G M fun d M1 => ∃ ds, IsL M1 d ds ∧ AX B X (e :: es) G M1 fun xs M2 => MX B X id d xs G M2 Q) : EX B X (.Call (.Attribute o name apos) (e :: es) [] pos) G M Q := fun F σ H Q' r kk =>
  WE.of (pe_bm PySem.F.plainAttrs_list slot hty mt_wm pe_we pa_wa hbase hfew hline hs hplain) (h F σ H _ r fun v1 H1 F1 d1 M1 ⟨ds, hL, q1⟩ s1 r1 p1 => by
    obtain ⟨a, xs, rfl, hx, rx⟩ := hL.at r1 p1
    exact ⟨.inl ⟨rfl, xs, .inl (.inl hx)⟩, q1 F1 σ H1 _ r1 fun vs H2 F2 ds2 M2 q2 s2 r2 p2 => q2 F2 σ H2 Q' _ vs r2 (p1.mono s2) p2 (kk.mono (s1.trans s2))⟩)
end
end FL

/-! < of data -/
namespace FL
open PySem PySem.Spec PyProof.Rows L2
section
variable {B : Bs} {X : Cx} {G : Sl} {M : Mem} {Q : D → Mem → Prop} {d e : D}
theorem op_ltD (hu : X.A.units + 64 < cLine) : OpR X (compareOp .Lt) (fun x y H Q => ∃ d e, Dp X.K H x d ∧ Dp X.K H y e ∧ PySem.W.alike d e = true ∧ d ≠ .none ∧ d.depth ≤ 64 ∧ Q (.bl (PySem.W.dataLt d e)) H) := by
  intro pins s σ H x y v u Q I rx ry h
  obtain ⟨d, e, hd, he, ha, hn, hdp, q⟩ := h
  obtain ⟨as, r1⟩ := Dp.reads I d x v hd rx
  obtain ⟨bs, r2⟩ := Dp.reads I e y u he ry
  exact PySem.W.rcLt_alike d e X.A s v u as bs r1 r2 ha hn (by omega) X.prog X.w X.xe _ ⟨.bl _, H, I, rfl, q⟩
theorem ox_ltD (hu : X.A.units + 64 < cLine) (h1 : d.isPy = true) (h2 : e.isPy = true) (ha : PySem.W.alike d.py e.py = true) (hn : d.py ≠ .none) (hd : d.dep ≤ 64) (q : Q (.bl (PySem.W.dataLt d.py e.py)) M) : OX B X (compareOp .Lt) d e G M Q := fun F σ H Q' v w r p1 p2 k =>
  WO.of (op_ltD hu) ⟨_, _, p1.dp r.ex h1, p2.dp r.ex h2, ha, hn, Nat.le_trans (dep_py d) hd, k.at r q (.bl _)⟩
end
/-- a loop's own block -/
def loopBody : Stmt → List Stmt
  | .For _ _ b _ _ => b
  | .While _ b _ _ => b
  | _ => []
def ifThen : Stmt → List Stmt
  | .If _ b _ _ => b
  | _ => []
/-- lists of ints as they ascend -/
def lexI : List Int → List Int → Bool
  | [], [] => false
  | [], _ :: _ => true
  | _ :: _, [] => false
  | x :: xs, y :: ys => decide (x < y) || (decide (x = y) && lexI xs ys)
theorem pys_int : ∀ ns : List Int, pys (ns.map D.int) = ns.map PyData.int
  | [] => by rw [List.map_nil, pys, List.map_nil]
  | n :: ns => by rw [List.map_cons, pys, D.py, List.map_cons, pys_int ns]
theorem alike_ints : ∀ ns ms : List Int, PySem.W.alikeAll (ns.map PyData.int) (ms.map PyData.int) = true
  | [], [] => by simp [PySem.W.alikeAll]
  | [], _ :: _ => by simp [PySem.W.alikeAll]
  | _ :: _, [] => by simp [PySem.W.alikeAll]
  | n :: ns, m :: ms => by
    rw [List.map_cons, List.map_cons, PySem.W.alikeAll, alike_ints ns ms, PySem.W.alike]; rfl
theorem lt_ints : ∀ ns ms : List Int, PySem.W.dataLt (.list (ns.map PyData.int)) (.list (ms.map PyData.int)) = lexI ns ms := by
  have key : ∀ ns ms : List Int, PyProof.Rows.lexLt itemOrd (PySem.W.keyToksAll (ns.map PyData.int)) (PySem.W.keyToksAll (ms.map PyData.int)) = lexI ns ms := by
    intro ns
    induction ns with
    | nil =>
      intro ms
      cases ms with
      | nil => rw [List.map_nil, PySem.W.keyToksAll]; decide +kernel
      | cons m ms =>
        rw [List.map_nil, List.map_cons, PySem.W.keyToksAll, PySem.W.keyToksAll]
        rfl
    | cons n ns ih =>
      intro ms
      cases ms with
      | nil =>
        rw [List.map_nil, List.map_cons, PySem.W.keyToksAll, PySem.W.keyToksAll]
        rfl
      | cons m ms =>
        rw [List.map_cons, List.map_cons]
        have ha : PySem.W.alike (.int n) (.int m) = true := by rw [PySem.W.alike]
        have he : PyData.eqv (.int n) (.int m) = (n == m) := by rw [PyData.eqv]
        by_cases h : n = m
        · subst h
          rw [PySem.W.dataLt_all_yes ha (by rw [he]; simp), ih]
          simp [lexI]
        · rw [PySem.W.dataLt_all_no ha (by rw [he]; simpa using h), PySem.W.dataLt_int]
          simp [lexI, h]
  intro ns ms
  rw [PySem.W.dataLt_list]
  exact key ns ms
/-- a number and a list -/
theorem lt_pair (n m : Int) (ns ms : List Int) : PySem.W.dataLt (.tuple [.int n, .list (ns.map PyData.int)]) (.tuple [.int m, .list (ms.map PyData.int)]) = (decide (n < m) || (decide (n = m) && lexI ns ms)) := by
  have ha : PySem.W.alike (.int n) (.int m) = true := by rw [PySem.W.alike]
  have he : PyData.eqv (.int n) (.int m) = (n == m) := by rw [PyData.eqv]
  rw [PySem.W.dataLt_tuple]
  by_cases h : n = m
  · subst h
    rw [PySem.W.dataLt_all_yes ha (by rw [he]; simp)]
    have hb : PySem.W.alike (.list (ns.map PyData.int)) (.list (ms.map PyData.int)) = true := by rw [PySem.W.alike]; exact alike_ints ns ms
    cases q : PyData.eqv (.list (ns.map PyData.int)) (.list (ms.map PyData.int)) with
    | true =>
      rw [PySem.W.dataLt_all_yes hb q]
      have e1 : ns = ms := by
        rw [PyData.eqv] at q
        have z : eqDs (ns.map D.int) (ms.map D.int) = true := by unfold eqDs; rw [pys_int, pys_int]; exact q
        rw [eqDs_enc (fun x y => eqD_int' x y)] at z
        exact of_decide_eq_true z
      subst e1
      have e2 : lexI ns ns = false := by
        clear q hb
        induction ns with
        | nil => rfl
        | cons n ns ih => simp [lexI, ih]
      rw [e2]
      simp
      decide +kernel
    | false =>
      rw [PySem.W.dataLt_all_no hb q, lt_ints]
      simp
  · rw [PySem.W.dataLt_all_no ha (by rw [he]; simpa using h), PySem.W.dataLt_int]
    simp [h]
end FL

/-! slices of lists with a step -/
namespace FL
open PySem PySem.Spec PyProof.Rows L2
def pickOf {α : Type} (xs : List α) (lo hi st : Option Int) : List α := (sliceRange (sliceBounds lo hi st xs.length).1 (sliceBounds lo hi st xs.length).2.1 (sliceBounds lo hi st xs.length).2.2).filterMap (xs[·]?)
theorem pickOf_len {α : Type} (xs : List α) (lo hi st : Option Int) : (pickOf xs lo hi st).length ≤ xs.length := by
  unfold pickOf
  refine Nat.le_trans (List.length_filterMap_le _ _) (sliceRange_length_le _ _ _ _ (fun hc => ?_) fun hc => ?_)
  · simp only [sliceBounds] at hc ⊢
    simp only [hc, if_true]
    constructor
    · cases lo with
      | none => simp
      | some i => dsimp only; omega
    · cases hi with
      | none => simp
      | some i => dsimp only; omega
  · simp only [sliceBounds] at hc ⊢
    simp only [hc, if_false]
    constructor
    · cases lo with
      | none => simp
      | some i => dsimp only; omega
    · cases hi with
      | none => simp
      | some i => dsimp only; omega
theorem vals_pick {xs : List V} {us : List Value} (r : Vals xs us) : ∀ l : List Nat, Vals (l.filterMap (xs[·]?)) (l.filterMap (us[·]?))
  | [] => .nil
  | i :: l => by
    rw [List.filterMap_cons, List.filterMap_cons]
    have e := r.length
    by_cases h : i < xs.length
    · obtain ⟨u, hu, ru⟩ := r.get (List.getElem?_eq_getElem h)
      rw [List.getElem?_eq_getElem h, hu]
      exact .cons ru (vals_pick r l)
    · rw [List.getElem?_eq_none (by omega), List.getElem?_eq_none (by omega)]
      exact vals_pick r l
theorem rp_pick {K : PySem.W.Frag} {F : Hp} {xs : List V} {ds : List D} (r : RpAll K F xs ds) : ∀ l : List Nat, RpAll K F (l.filterMap (xs[·]?)) (l.filterMap (ds[·]?))
  | [] => .nil
  | i :: l => by
    rw [List.filterMap_cons, List.filterMap_cons]
    have e := r.length
    by_cases h : i < xs.length
    · obtain ⟨u, hu, ru⟩ := r.getV (List.getElem?_eq_getElem h)
      rw [List.getElem?_eq_getElem h, hu]
      exact .cons ru (rp_pick r l)
    · rw [List.getElem?_eq_none (by omega), List.getElem?_eq_none (by omega)]
      exact rp_pick r l
section
variable {B : Bs} {X : Cx} {G : Sl} {M : Mem} {Q : D → Mem → Prop} {e st : Expr} {te : TE} {lo hi : Option Expr} {tl th ts : TO} {pos p2 : Pos} {ds : List D}
def tSt (K : PySem.W.Frag) (te : TE) (tl th ts : TO) : TE := fun σ H Q => te σ H fun x H1 => tl σ H1 fun l H2 => th σ H2 fun u H3 => ts σ H3 fun k H4 =>
  ∃ a xs, x = .ref a ∧ SqL K H4 a xs ∧ k ≠ some 0 ∧ ∀ p, H4 p = none → Q (.ref p) (upd H4 p (.lst (pickOf xs l u k)))
theorem pe_sliceSt (he : PE X e te) (hl : PO X lo tl) (hu : PO X hi th) (hs : PO X (some st) ts) : PE X (.Subscript e (.Slice lo hi (some st) p2) pos) (tSt X.K te tl th ts) := by
  refine ⟨fun pins s σ H Q I h => ?_⟩
  refine Subscript_ (thn (he.run pins s σ H _ I h) fun v s1 ⟨x, H1, I1, r1, q1⟩ => ?_)
  refine wpAny_Slice (thn (hl.run pins s1 σ H1 _ I1 q1) fun vl s2 ⟨l, H2, I2, pl, q2⟩ => thn (hu.run pins s2 σ H2 _ I2 q2) fun vu s3 ⟨u, H3, I3, pu, q3⟩ => thn (hs.run pins s3 σ H3 _ I3 q3) fun vs s4 ⟨k, H4, I4, pk, q4⟩ => ?_)
  obtain ⟨a, xs, rfl, hx, hk, q⟩ := q4
  cases r1
  have I5 : Inv X pins σ H4 { s4 with heap := s4.heap.push { cls := .type "slice", data := .fields #[vl, vu, vs] } } := I4.kept (t' := s4.toks) fun b ob q => Heap.get?_push_of_some _ q
  obtain ⟨its, r, ht, hz⟩ := I5.list hx
  have hlen := r.length
  have hg : wpAny (model X.prog X.w) X.A (getItem (.ref a) (.ref s4.heap.objs.size)) (EP X pins σ Q) X.xe { s4 with heap := s4.heap.push { cls := .type "slice", data := .fields #[vl, vu, vs] } } := by
    refine wpAny_getItem_list_slice ht.isList (Heap.IsSliceOf.new ..) pl pu pk hk ?_ (by rw [List.size_toArray]; omega)
    have e1 : slicePick its.toArray l u k = (pickOf its l u k).toArray := by
      unfold slicePick pickOf
      rw [List.size_toArray]
      congr 1
      refine congrArg (fun f => List.filterMap f _) (funext fun i => ?_)
      simp
    rw [e1]
    have e2 : Vals (pickOf xs l u k) (pickOf its l u k) := by
      unfold pickOf
      rw [hlen]
      exact vals_pick r _
    refine ⟨.ref _, _, I5.laid (t' := s4.toks) (o := .lst (pickOf xs l u k)) (fun b ob q => Heap.get?_push_of_some _ q) (Nat.le_refl _) ?_, rfl, q _ (I5.hok.fresh (Nat.le_refl _))⟩
    exact ⟨Nat.le_trans (pickOf_len xs l u k) hz, _, 0, e2, Heap.get?_push_size _ rfl⟩
  show wpAny (model X.prog X.w) X.A (subscriptTail e (.Slice lo hi (some st) p2) (.ref a) (.ref s4.heap.objs.size)) (EP X pins σ Q) X.xe _
  exact tail_any (ops := [.ref a, .ref s4.heap.objs.size]) ht.isList.typeIs slot_list_getitem.lookup hg (by with_unfolding_all rfl)
theorem ex_sliceSt (h : EX B X e G M fun d M1 => POX B X lo G M1 fun l M2 => POX B X hi G M2 fun u M3 => EX B X st G M3 fun k M4 => ∃ (ds : List D) (j : Int), IsL M4 d ds ∧ k = .int j ∧ j ≠ 0 ∧ Q (.lst (pickOf ds l u (some j))) M4) : EX B X (.Subscript e (.Slice lo hi (some st) p2) pos) G M Q := fun F σ H Q' r k =>
  WE.of (pe_sliceSt pe_we po_wpo po_wpo (po_some pe_we)) (h F σ H _ r fun v1 H1 F1 d1 M1 q1 s1 r1 p1 => pox_ok q1 r1 fun l H2 F2 M2 q2 s2 r2 => pox_ok q2 r2 fun u H3 F3 M3 q3 s3 r3 => q3 F3 σ H3 _ r3 fun v4 H4 F4 d4 M4 q4 s4 r4 p4 => by
    obtain ⟨ds, j, hL, e4, hj, q⟩ := q4
    subst e4
    cases p4
    obtain ⟨a, xs, rfl, hx, rx⟩ := hL.at r4 (p1.mono (s2.trans (s3.trans s4)))
    refine ⟨j, rfl, a, xs, rfl, SqL.of hx, fun z => hj (Option.some.inj z), fun p hp => ?_⟩
    refine (k.mono (s1.trans (s2.trans (s3.trans s4)))).new r4 hp q (.lst upd_same ?_)
    unfold pickOf
    rw [rx.length]
    exact (rp_pick rx _).mono (r4.new hp).1)
/-- from a place on, each so manieth -/
theorem pick_from {α : Type} {xs : List α} {n o j : Nat} (ho : 0 < o) (hj : j < o) (hl : xs.length = o * n) : pickOf xs (some (j : Int)) none (some (o : Int)) = (List.range n).filterMap fun k => xs[j + o * k]? := by
  unfold pickOf
  have e1 : (sliceBounds (some (j : Int)) none (some (o : Int)) xs.length) = ((min (j : Int) (xs.length : Int)), (xs.length : Int), (o : Int)) := by
    simp only [sliceBounds, Option.getD_some]
    have h1 : (o : Int) > 0 := by omega
    have h2 : ¬ ((j : Int) < 0) := by omega
    simp only [h1, h2, if_true, if_false]
    congr 1
    omega
  rw [e1]
  unfold sliceRange
  have h1 : (o : Int) > 0 := by omega
  simp only [h1, if_true]
  cases n with
  | zero =>
    have hx : xs = [] := List.eq_nil_of_length_eq_zero (by simpa using hl)
    subst hx
    simp
  | succ n =>
    have hjl : j < xs.length := by
      rw [hl, Nat.mul_succ]; omega
    rw [Int.min_eq_left (by omega), if_pos (by omega)]
    have ec : ((((xs.length : Nat) : Int) - (j : Int) + (o : Int) - 1) / (o : Int)).toNat = n + 1 := by
      have e2 : ((xs.length : Nat) : Int) - (j : Int) + (o : Int) - 1 = ((o : Int) - 1 - (j : Int)) + (o : Int) * ((n : Int) + 1) := by
        rw [hl, Nat.mul_succ]
        have : ((o * n + o : Nat) : Int) = (o : Int) * (n : Int) + (o : Int) := by simp
        rw [this, Int.mul_add, Int.mul_one]; omega
      rw [e2, Int.add_mul_ediv_left _ _ (by omega), Int.ediv_eq_zero_of_lt (by omega) (by omega)]
      omega
    rw [ec, List.filterMap_map]
    refine congrArg (fun f => List.filterMap f (List.range (n + 1))) (funext fun k => ?_)
    show xs[((j : Int) + (o : Int) * (k : Int)).toNat]? = _
    have : ((j : Int) + (o : Int) * (k : Int)).toNat = j + o * k := by
      have : (j : Int) + (o : Int) * (k : Int) = ((j + o * k : Nat) : Int) := by simp
      rw [this, Int.toNat_natCast]
    rw [this]
end
end FL

/-! list(range(..)) -/
namespace FL
open PySem PySem.Spec PyProof.Rows L2
section
variable {B : Bs} {X : Cx} {G : Sl} {M : Mem} {Q : D → Mem → Prop} {a : Expr} {p p2 pos pos2 : Pos}
theorem rps_rg {K : PySem.W.Frag} {F : Hp} {n : Int} : RpAll K F (rgV 0 n) (rangeD 0 n.toNat) := by
  unfold rgV rangeD
  rw [Int.sub_zero]
  generalize List.range n.toNat = l
  induction l with
  | nil => exact .nil
  | cons x l ih => exact .cons (.int _) ih
theorem ex_listRg (hc : X.calm = true) (hl : Gl X "list") (hlm : X.mg "list" = none) (hg : Gl X "range") (hm : X.mg "range" = none) (n1 : starEach [a] X.env = (false, eval a X.env) :: starEach [] X.env)
    (n2 : starEach [Expr.Call (.Name "range" p2) [a] [] pos2] X.env = (false, eval (Expr.Call (.Name "range" p2) [a] [] pos2) X.env) :: starEach [] X.env)
    (h : EX B X a G M fun d M1 => ∃ n : Int, d = .int n ∧ 0 ≤ n ∧ n ≤ 16777216 ∧ Q (.lst (rangeD 0 n.toNat)) M1) : EX B X (.Call (.Name "list" p) [.Call (.Name "range" p2) [a] [] pos2] [] pos) G M Q := fun F σ H Q' r k =>
  WE.of (pe_listRg hc hl hlm (prg_1 hg hm pe_we n1) n2) (h F σ H _ r fun v H1 F1 d1 M1 ⟨n, e1, h0, h1, q⟩ s1 r1 p1 => by
    subst e1; cases p1
    exact ⟨n, rfl, RgOk.of_le (Int.le_refl 0) h1 (by decide) h0, fun l hl => (k.mono s1).new r1 hl q (.lst upd_same rps_rg)⟩)
end
end FL

/-! instances: fields, methods, making -/
namespace FL
open PySem PySem.Spec PyProof.Rows L2
/-- a field is set -/
def putD (f : Str) (d : D) : List (Str × D) → List (Str × D)
  | [] => [(f, d)]
  | (g, x) :: r => if g = f then (g, d) :: r else (g, x) :: putD f d r
section
variable {K : PySem.W.Frag} {F : Hp} {f : Str}
theorem FsRp.get {d : D} : ∀ {vs : List (Str × V)} {ds : List (Str × D)}, FsRp K F vs ds → ds.lookup f = some d → ∃ v, vs.lookup f = some v ∧ Rp K F v d
  | _, _, .nil, h => by cases h
  | _, _, @FsRp.cons _ _ k v vs e ds p r, h => by
    rw [List.lookup_cons] at h ⊢
    split at h
    · rename_i q
      cases h
      exact ⟨v, rfl, p⟩
    · exact r.get h
theorem FsRp.none : ∀ {vs : List (Str × V)} {ds : List (Str × D)}, FsRp K F vs ds → ds.lookup f = none → vs.lookup f = none
  | _, _, .nil, h => rfl
  | _, _, @FsRp.cons _ _ k v vs e ds p r, h => by
    rw [List.lookup_cons] at h ⊢
    split at h
    · cases h
    · exact r.none h
theorem FsRp.len : ∀ {vs : List (Str × V)} {ds : List (Str × D)}, FsRp K F vs ds → vs.length = ds.length
  | _, _, .nil => rfl
  | _, _, .cons _ r => by rw [List.length_cons, List.length_cons, r.len]
theorem FsRp.put {v : V} {d : D} (q : Rp K F v d) : ∀ {vs : List (Str × V)} {ds : List (Str × D)}, FsRp K F vs ds → FsRp K F (putF f v vs) (putD f d ds)
  | _, _, .nil => .cons q .nil
  | _, _, @FsRp.cons _ _ k w vs e ds p r => by
    unfold putF putD
    by_cases h : k = f
    · rw [if_pos h, if_pos h]; exact .cons q r
    · rw [if_neg h, if_neg h]; exact .cons p (r.put q)
end
/-- a method of the class at C -/
structure Mth (P : Program) (w : World) (K : PySem.W.Frag) (mg : Str → Option Value) (base : Heap) (k : Nat) (C : Addr) (m : Str) (sp : DSp) : Prop where
  ex : ∃ (f : Addr) (fd : FuncData) (ps : List Str), FnOk P w K mg base CX0 k f fd ps (lift K sp) ∧ Cls K C ∧ Meth K C m f ∧ Binds K fd ps []
/-- the class by its name, and its __init__ -/
structure Mkr (P : Program) (w : World) (K : PySem.W.Frag) (mg : Str → Option Value) (base : Heap) (k : Nat) (x : Str) (C : Addr) (sp : DSp) : Prop where
  ex : ∃ (f : Addr) (fd : FuncData) (ps : List Str), FnOk P w K mg base CX0 k f fd ps (lift K sp) ∧ Mk K C f ∧ mg x = some (.ref C) ∧ Binds K fd ps []
section
variable {B : Bs} {X : Cx} {a b c e o value : Expr} {es : List Expr} {G G' : Sl} {M M' : Mem} {Q : D → Mem → Prop} {E : En} {pos p pos' apos : Pos} {k : Nat} {x m f : Str} {sp : DSp} {C : Addr}
theorem ex_fld (hb : attributeBase e f X.env (eval e X.env) = eval e X.env) (h : EX B X e G M fun d M1 => ∃ a C fs v, d = .ref a ∧ M1 a = some (.ins C fs) ∧ Cls X.K C ∧ NoAttr X.K C f ∧ fs.lookup f = some v ∧ Q v M1) : EX B X (.Attribute e f pos) G M Q := fun F σ H Q' r kk =>
  WE.of (pe_fld pe_we hb) (h F σ H _ r fun v H1 F1 d1 M1 ⟨a, C, fs, y, e1, hm, c, n, l, q⟩ s1 r1 p1 => by
    subst e1; cases p1
    obtain ⟨_, dx, vs, hx, rx⟩ := r1.mem a _ hm
    obtain ⟨u, hu, ru⟩ := rx.get l
    exact ⟨a, C, dx, vs, u, rfl, hx, c, n, hu, (kk.mono s1).at r1 q ru⟩)
theorem sx_fld (hs : swapsWith value (some (.Attribute o f pos')) pos.line X.env = pure false) (h : EX B X value G M fun d M1 => EX B X o G M1 fun d2 M2 => ∃ a C fs, d2 = .ref a ∧ M2 a = some (.ins C fs) ∧ Cls X.K C ∧ NoAttr X.K C f ∧ fs.length < 1000 ∧ E.nx G (mupd M2 a (.ins C (putD f d fs)))) :
    SX B X (.Assign [.Attribute o f pos'] value pos) E G M := fun F σ H D' r k =>
  WS.of (ps_fld pe_we pe_we hs) (h F σ H _ r fun v1 H1 F1 d1 M1 q1 s1 r1 p1 => q1 F1 σ H1 _ r1 fun v2 H2 F2 d2 M2 ⟨a, C, fs, e2, hm, c, n, l, q⟩ s2 r2 p2 => by
    subst e2; cases p2
    obtain ⟨_, dx, vs, hx, rx⟩ := r2.mem a _ hm
    refine ⟨a, C, dx, vs, rfl, hx, c, n, by rw [rx.len]; exact l, k.nx _ _ F2 _ _ q (s1.trans s2) (r2.write hm ⟨dx, _, upd_same, rx.put (p1.mono s2)⟩)⟩)
theorem ex_meth {pl : Sem Bool} (c : Mth X.prog X.w X.K X.mg X.base k C m sp) (hr : Room k X.A) (hst : starEach (e :: es) X.env = (false, eval e X.env) :: starEach es X.env) (hpl : (backTo pos (starEach es X.env)).any (·.1) = false)
    (ht : eval (.Call (.Attribute o m apos) (e :: es) [] pos) X.env = (do
      let ov ← eval o X.env
      standAt apos.atName
      let (f, first) ← holding [ov] (getMethod ov m pl)
      callWith pos f first (backTo pos (starEach (e :: es) X.env)) (backToKw pos (keywordEach [] X.env))))
    (h : EX B X o G M fun d M1 => ∃ a fs, d = .ref a ∧ M1 a = some (.ins C fs) ∧ fs.lookup m = none ∧ AX B X (e :: es) G M1 fun ds M2 => sp (.ref a :: ds) M2 Q) : EX B X (.Call (.Attribute o m apos) (e :: es) [] pos) G M Q := fun F σ H Q' r kk => by
  obtain ⟨f, fd, ps, Fo, cl, me, bd⟩ := c.ex
  refine WE.of (pe_meth pe_we cl me Fo hr bd .nil pass0 pa_wa hst hpl ht) (h F σ H _ r fun v H1 F1 d1 M1 ⟨a, fs, e1, hm, l, q⟩ s1 r1 p1 => ?_)
  subst e1; cases p1
  obtain ⟨_, dx, vs, hx, rx⟩ := r1.mem a _ hm
  refine ⟨a, dx, vs, rfl, hx, rx.none l, q F1 σ H1 _ r1 fun us H2 F2 ds M2 q2 s2 r2 p2 => ?_⟩
  rw [List.append_nil]
  exact lift_use r2 (.cons (.ref a) p2) q2 (kk.mono (s1.trans s2))
theorem ex_meth0 {pl : Sem Bool} (c : Mth X.prog X.w X.K X.mg X.base k C m sp) (hr : Room k X.A)
    (ht : eval (.Call (.Attribute o m apos) [] [] pos) X.env = (do
      let ov ← eval o X.env
      standAt apos.atName
      let (f, first) ← holding [ov] (getMethod ov m pl)
      callWith pos f first (backTo pos (starEach [] X.env)) (backToKw pos (keywordEach [] X.env))))
    (h : EX B X o G M fun d M1 => ∃ a fs, d = .ref a ∧ M1 a = some (.ins C fs) ∧ fs.lookup m = none ∧ sp [.ref a] M1 Q) : EX B X (.Call (.Attribute o m apos) [] [] pos) G M Q := fun F σ H Q' r kk => by
  obtain ⟨f, fd, ps, Fo, cl, me, bd⟩ := c.ex
  refine WE.of (pe_meth0 pe_we cl me Fo hr bd .nil pass0 ht) (h F σ H _ r fun v H1 F1 d1 M1 ⟨a, fs, e1, hm, l, q⟩ s1 r1 p1 => ?_)
  subst e1; cases p1
  obtain ⟨_, dx, vs, hx, rx⟩ := r1.mem a _ hm
  exact ⟨a, dx, vs, rfl, hx, rx.none l, lift_use (E0' := E0) r1 (.cons (.ref a) .nil) q (kk.mono s1)⟩
theorem make_use {F1 H1 : Hp} {σ : L2.St} {vs : List V} {ds : List D} {Q' : VK} {E0' : XK} (r1 : R B X.K F1 σ H1 G M) (p1 : RpAll X.K F1 vs ds) (q : ∀ x, M x = none → sp (.ref x :: ds) (mupd M x (.ins C [])) fun d M2 => d = .non ∧ Q (.ref x) M2) (kk : KE B X F1 σ G Q Q') :
    ∀ x dx, H1 x = none → H1 dx = none → dx ≠ x → lift X.K sp (.ref x :: vs) (upd (upd H1 dx (.own x)) x (.ins C dx [])) (fun v H2 => v = .non ∧ Q' (.ref x) H2) E0' := by
  intro x dx hx hd hne
  have r2 : R B X.K F1 σ (upd H1 dx (.own x)) G M := r1.heap (Same.upd_new hd)
  have hx2 : (upd H1 dx (.own x)) x = none := by rw [upd_ne (Ne.symm hne)]; exact hx
  have r3 : R B X.K F1 σ (upd (upd H1 dx (.own x)) x (.ins C dx [])) G (mupd M x (.ins C [])) := r2.newCell hx2 ⟨dx, [], upd_same, .nil⟩
  exact ⟨F1, _, _, _, .cons (.ref x) p1, r3.ex, r3.mem, q x (r1.freeM hx), fun d M' ⟨e, qd⟩ v H' F' s' k' e' m' rp => by
    subst e; cases rp
    exact ⟨rfl, kk (.ref x) H' F' (.ref x) M' qd s' ⟨r3.slots.mono s', e', m', r3.bf.trans s', r3.bk.trans k'⟩ (.ref x)⟩⟩
theorem ex_make (c : Mkr X.prog X.w X.K X.mg X.base k x C sp) (hr : Room (k + 1) X.A) (hg : Gl X x) (hdb : (x == ("__debug__" : Str)) = false)
    (he : starEach (e :: es) X.env = (false, eval e X.env) :: starEach es X.env) (hpl : (backTo pos (starEach es X.env)).any (·.1) = false)
    (h : AX B X (e :: es) G M fun ds M1 => ∀ x, M1 x = none → sp (.ref x :: ds) (mupd M1 x (.ins C [])) fun d M2 => d = .non ∧ Q (.ref x) M2) : EX B X (.Call (.Name x p) (e :: es) [] pos) G M Q := fun F σ H Q' r kk => by
  obtain ⟨f, fd, ps, Fo, mk, mgx, bd⟩ := c.ex
  refine WE.of (pe_make mk Fo hr hg mgx bd .nil pass0 pa_wa hdb he hpl) (h F σ H _ r fun vs H1 F1 ds M1 q1 s1 r1 p1 => ?_)
  intro y dx hx hd hne
  rw [List.append_nil]
  exact make_use r1 p1 q1 (kk.mono s1) y dx hx hd hne
theorem ex_make0 (c : Mkr X.prog X.w X.K X.mg X.base k x C sp) (hr : Room (k + 1) X.A) (hg : Gl X x) (hdb : (x == ("__debug__" : Str)) = false)
    (h : ∀ x, M x = none → sp [.ref x] (mupd M x (.ins C [])) fun d M2 => d = .non ∧ Q (.ref x) M2) : EX B X (.Call (.Name x p) [] [] pos) G M Q := fun F σ H Q' r kk => by
  obtain ⟨f, fd, ps, Fo, mk, mgx, bd⟩ := c.ex
  exact WE.of (pe_make0 mk Fo hr hg mgx bd .nil pass0 hdb) (make_use (vs := [] ++ []) (E0' := E0) r .nil h kk)
end
end FL

/-! walks over lists that may be cells: the cell is known to stay as it is -/
namespace FL
open PySem PySem.Spec PyProof.Rows L2
structure WkM (B : Bs) (K : PySem.W.Frag) (F0 : Hp) (J : It) (ds : List D) (C : Mem → Prop) : Prop where
  goes : ∀ i F σ H G M, i < ds.length → Same F0 F → R B K F σ H G M → C M → J.go i H
  stops : ∀ F σ H G M, Same F0 F → R B K F σ H G M → C M → J.stop ds.length H
  yields : ∀ i F σ H G M x H', i < ds.length → Same F0 F → R B K F σ H G M → C M → J.yld i H x H' → ∃ d, ds[i]? = some d ∧ ∃ F2, Same F F2 ∧ R B K F2 σ H' G M ∧ Rp K F2 x d
/-- an iterable that gives ds while C holds of the cells -/
def LXM (B : Bs) (X : Cx) (tg iter : Expr) (G : Sl) (M : Mem) (Q : List D → (Mem → Prop) → Mem → Prop) : Prop := ∀ F σ H (R' : It → Hp → Prop), R B X.K F σ H G M →
  (∀ J H' F' ds C M', Q ds C M' → Same F F' → R B X.K F' σ H' G M' → WkM B X.K F' J ds C → R' J H') → WIt X tg iter σ H R'
section
variable {B : Bs} {X : Cx} {a b c e o tg iter elt : Expr} {es : List Expr} {G G' : Sl} {M M' : Mem} {Q : D → Mem → Prop} {E : En} {pos p pos' : Pos} {F F1 : Hp} {σ : L2.St} {st : Stmt} {sts rest body : List Stmt}
theorem wkm_isL {K : PySem.W.Frag} {F0 : Hp} {a : Addr} {d : D} {ds : List D} (p0 : Rp K F0 (.ref a) d) : WkM B K F0 (Itl K a) ds (fun M => IsL M d ds) where
  goes := fun i F σ H G M hi s r hC => by
    obtain ⟨a', xs, e, hx, rx⟩ := hC.at r (p0.mono s)
    cases e
    exact ⟨xs, xs[i]'(by rw [rx.length]; exact hi), SqL.of hx, by simp [rx.length, hi]⟩
  stops := fun F σ H G M s r hC => by
    obtain ⟨a', xs, e, hx, rx⟩ := hC.at r (p0.mono s)
    cases e
    exact ⟨xs, SqL.of hx, by rw [rx.length]; exact Nat.le_refl _⟩
  yields := fun i F σ H G M x H' hi s r hC y => by
    obtain ⟨a', xs, e, hx, rx⟩ := hC.at r (p0.mono s)
    cases e
    obtain ⟨e2, y⟩ := y
    subst e2
    obtain ⟨d, hd, rd⟩ := rx.getV (y xs (SqL.of hx))
    exact ⟨d, hd, F, Same.refl F, r, rd⟩
theorem lxm_isL {Q : List D → (Mem → Prop) → Mem → Prop} (h : EX B X e G M fun d M1 => ∃ ds, IsL M1 d ds ∧ Q ds (fun M => IsL M d ds) M1) : LXM B X tg e G M Q := fun F σ H R' r k =>
  WIt.of (pi_list pe_we) (h F σ H _ r fun v H1 F1 d1 M1 ⟨ds, hL, q⟩ s1 r1 p1 => by
    obtain ⟨a, xs, rfl, hx, rx⟩ := hL.at r1 p1
    exact ⟨a, rfl, ⟨xs, SqL.of hx⟩, k _ _ F1 ds _ M1 q s1 r1 (wkm_isL p1)⟩)
theorem wkm_enumL {K : PySem.W.Frag} {F0 : Hp} {a : Addr} {d : D} {ds : List D} (p0 : Rp K F0 (.ref a) d) : WkM B K F0 (Ite K a) (enumD ds) (fun M => IsL M d ds) where
  goes := fun i F σ H G M hi s r hC => by
    rw [enumD_len] at hi
    obtain ⟨a', xs, e, hx, rx⟩ := hC.at r (p0.mono s)
    cases e
    exact ⟨xs, xs[i]'(by rw [rx.length]; exact hi), SqL.of hx, by simp [rx.length, hi]⟩
  stops := fun F σ H G M s r hC => by
    obtain ⟨a', xs, e, hx, rx⟩ := hC.at r (p0.mono s)
    cases e
    exact ⟨xs, SqL.of hx, by rw [rx.length, enumD_len]; exact Nat.le_refl _⟩
  yields := fun i F σ H G M x H' hi s r hC y => by
    obtain ⟨a', xs, e, hx, rx⟩ := hC.at r (p0.mono s)
    cases e
    obtain ⟨T, u, h1, h2, h3, h4⟩ := y
    subst h1; subst h3
    obtain ⟨d, hd, rd⟩ := rx.getV (h4 xs (SqL.of hx))
    obtain ⟨F2, s2, r2, p2⟩ := pair_new r h2 (.int _) rd
    exact ⟨_, enumD_get hd, F2, s2, r2, p2⟩
theorem lxm_enumL {Q : List D → (Mem → Prop) → Mem → Prop} (hg : Gl X "enumerate") (hm : X.mg "enumerate" = none) (hs : starEach [e] X.env = [(false, eval e X.env)]) (ht : ∃ es k pp, tg = .Tuple es k pp)
    (h : EX B X e G M fun d M1 => ∃ ds, IsL M1 d ds ∧ Q (enumD ds) (fun M => IsL M d ds) M1) : LXM B X tg (.Call (.Name "enumerate" p) [e] [] pos) G M Q := fun F σ H R' r k => by
  obtain ⟨es, kk, pp, rfl⟩ := ht
  refine WIt.of (pi_enum hg hm (pa_cons pe_we pa_nil (by rw [hs]; rfl)) hs) (h F σ H _ r fun v H1 F1 d1 M1 ⟨ds, hL, q⟩ s1 r1 p1 => ?_)
  obtain ⟨a, xs, rfl, hx, rx⟩ := hL.at r1 p1
  exact ⟨a, xs, rfl, SqL.of hx, k _ _ F1 _ _ M1 q s1 r1 (wkm_enumL p1)⟩
theorem sx_forM (hp : PassesOwn (model X.prog X.w) X.A X.env X.xe) (hc : X.calm = true) (hs : ∀ x, foldedSetIterable iter X.env x = pure x)
    (h : LXM B X tg iter G M fun ds C M1 => ∃ I : Nat → Sl → Mem → Prop, I 0 G M1 ∧ (∀ i G' M', I i G' M' → C M') ∧
      (∀ i d G' M', ds[i]? = some d → I i G' M' → GX B X tg d G' M' fun G2 M2 => SXs B X body (E.lp (I (i + 1))) G2 M2) ∧ ∀ G' M', I ds.length G' M' → E.nx G' M') :
    SX B X (.For tg iter body [] pos) E G M := fun F σ H D' r k =>
  WS.of (ps_for hp hc pi_wi pg_wg pss_wss hs) (h F σ H _ r fun J H1 F1 ds C M1 ⟨I, i0, iC, turn, fin⟩ s1 r1 w => by
    refine ⟨fun i m σ' H' => m = ds.length - i ∧ i ≤ ds.length ∧ ∃ F' G' M', Same F1 F' ∧ R B X.K F' σ' H' G' M' ∧ I i G' M', ⟨_, rfl, Nat.zero_le _, F1, G, M1, Same.refl F1, r1, i0⟩, ?_⟩
    rintro i m σ' H' ⟨rfl, hi, F', G', M', s', r', hI⟩
    by_cases hlt : i < ds.length
    · refine .inr ⟨w.goes i F' σ' H' G' M' hlt s' r' (iC i G' M' hI), fun σ2 H2 => ∃ F' G' M', Same F1 F' ∧ R B X.K F' σ2 H2 G' M' ∧ I (i + 1) G' M', fun σ2 H2 z => ⟨ds.length - (i + 1), by omega, rfl, hlt, z⟩, fun x H2 y => ?_⟩
      obtain ⟨d, hd, F2, s2, r2, p2⟩ := w.yields i F' σ' H' G' M' x H2 hlt s' r' (iC i G' M' hI) y
      refine turn i d G' M' hd hI F2 σ' H2 _ x r2 p2 fun σ3 H3 F3 G3 M3 q3 s3 r3 => q3 F3 σ3 H3 _ r3 ?_
      have s03 : Same F F3 := s1.trans (s'.trans (s2.trans s3))
      refine ⟨?_, k.rt.mono s03, k.nx.mono s03, ?_⟩
      · exact fun σ4 H4 F4 G4 M4 q4 s4 r4 => ⟨F4, G4, M4, (s'.trans (s2.trans s3)).trans s4, r4, q4⟩
      · exact fun σ4 H4 F4 G4 M4 q4 s4 r4 => ⟨F4, G4, M4, (s'.trans (s2.trans s3)).trans s4, r4, q4⟩
    · have e : i = ds.length := by omega
      subst e
      exact .inl ⟨w.stops F' σ' H' G' M' s' r' (iC _ G' M' hI), k.nx σ' H' F' G' M' (fin G' M' hI) (s1.trans s') r'⟩)
/-! ### comprehensions over such -/
def LcXM (B : Bs) (X : Cx) (scope : Scope) (own : List Nat) (t : Tg) (ifs : List Expr) (elt : Expr) (G : Sl) (ds : List D) (C : Mem → Prop) (M1 : Mem) (fin : Addr → List D → Mem → Prop) : Prop :=
  ∀ L, M1 L = none → ∃ I : Nat → List D → Mem → Prop, I 0 [] (mupd M1 L (.lst [])) ∧ (∀ i acc M', I i acc M' → M' L = some (.lst acc) → C M') ∧
    (∀ i d acc M', ds[i]? = some d → I i acc M' → M' L = some (.lst acc) → TgD t d fun dvs => Bk X scope fun X' => TXs B X' ifs (gsetAll (gwipe G own) t.slots dvs) M' fun b M3 =>
      if b = true then Bk X scope fun X2 => EX B X2 elt (gsetAll (gwipe G own) t.slots dvs) M3 fun y M4 => M4 L = some (.lst acc) ∧ acc.length < sizeLine ∧ I (i + 1) (acc ++ [y]) (mupd M4 L (.lst (acc ++ [y])))
      else M3 L = some (.lst acc) ∧ I (i + 1) acc M3) ∧
    ∀ acc M', I ds.length acc M' → M' L = some (.lst acc) → fin L acc M'
theorem lc_dataM {scope : Scope} {own : List (Str × Nat)} {t : Tg} {ifs : List Expr} {fin : Addr → List D → Mem → Prop} {Q' : VK} {H : Hp} (ht : ∀ i ∈ t.slots, i ∈ own.map (·.2)) (r : R B X.K F σ H G M)
    (h : LXM B X tg iter G M fun ds C M1 => LcXM B X scope (own.map (·.2)) t ifs elt G ds C M1 fin)
    (k : ∀ L acc H' F' M', fin L acc M' → M' L = some (.lst acc) → Same F F' → R B X.K F' σ H' G M' → Q' (.ref L) H') :
    tLc (WIt X tg iter) (gTg X.K t) (WTb X scope ifs) (WEb X scope elt) (own.map (·.2)) σ H Q' := by
  refine h F σ H _ r fun J H1 F1 ds C M1 lc s1 r1 w => ?_
  intro L hL
  obtain ⟨I, i0, iC, turn, fn⟩ := lc L (r1.freeM hL)
  refine ⟨fun i m H' => m = ds.length - i ∧ i ≤ ds.length ∧ ∃ F' acc M', Same F1 F' ∧ R B X.K F' σ H' G M' ∧ M' L = some (.lst acc) ∧ I i acc M', ⟨_, rfl, Nat.zero_le _, F1, [], _, Same.refl F1, r1.newCell (o := .lst []) hL ⟨[], upd_same, .nil⟩, mupd_same, i0⟩, ?_⟩
  rintro i m H' ⟨rfl, hi, F', acc, M', s', r', hM, hI⟩
  have cM := iC i acc M' hI hM
  by_cases hlt : i < ds.length
  · refine .inr ⟨w.goes i F' σ H' G M' hlt s' r' cM, fun H2 => ∃ F' acc M', Same F1 F' ∧ R B X.K F' σ H2 G M' ∧ M' L = some (.lst acc) ∧ I (i + 1) acc M', fun H2 z => ⟨ds.length - (i + 1), by omega, rfl, hlt, z⟩, fun x H2 y => ?_⟩
    obtain ⟨d, hd, F2, s2, r2, p2⟩ := w.yields i F' σ H' G M' x H2 hlt s' r' cM y
    have tt := turn i d acc M' hd hI hM
    have main : ∀ (vs : List V) (dvs : List D), RpAll X.K F2 vs dvs → (Bk X scope fun X' => TXs B X' ifs (gsetAll (gwipe G (own.map (·.2))) t.slots dvs) M' fun b M3 =>
        if b = true then Bk X scope fun X2 => EX B X2 elt (gsetAll (gwipe G (own.map (·.2))) t.slots dvs) M3 fun y M4 => M4 L = some (.lst acc) ∧ acc.length < sizeLine ∧ I (i + 1) (acc ++ [y]) (mupd M4 L (.lst (acc ++ [y])))
        else M3 L = some (.lst acc) ∧ I (i + 1) acc M3) →
        L2.wipe (FL.setAll (L2.wipe σ (own.map (·.2))) t.slots vs) (own.map (·.2)) = L2.wipe σ (own.map (·.2)) ∧ WTb X scope ifs (FL.setAll (L2.wipe σ (own.map (·.2))) t.slots vs) H2 fun b H3 =>
          if b = true then WEb X scope elt (FL.setAll (L2.wipe σ (own.map (·.2))) t.slots vs) H3 fun y H4 => ∃ acc, H4 L = some (.lst acc) ∧ acc.length < sizeLine ∧ (∃ F' acc' M', Same F1 F' ∧ R B X.K F' σ (upd H4 L (.lst (acc ++ [y]))) G M' ∧ M' L = some (.lst acc') ∧ I (i + 1) acc' M')
          else ∃ F' acc M', Same F1 F' ∧ R B X.K F' σ H3 G M' ∧ M' L = some (.lst acc) ∧ I (i + 1) acc M' := by
      intro vs dvs pv hb
      refine ⟨wipe_setAll ht, fun s0 H0 C cl fp => ?_⟩
      have rw0 : R B X.K F2 (FL.setAll (L2.wipe σ (own.map (·.2))) t.slots vs) H2 (gsetAll (gwipe G (own.map (·.2))) t.slots dvs) M' := R.setAll (R.wipe r2 (own.map (·.2))) pv
      refine txs_ok (X := X.blk s0 H0 scope (compEnvC scope cl C X.env) fp) (hb s0 H0 C cl fp) rw0 fun b H3 F3 M3 q3 s3 r3 => ?_
      have back : ∀ {Hx Fx : Hp} {Mx : Mem}, Same F2 Fx → R B X.K Fx (FL.setAll (L2.wipe σ (own.map (·.2))) t.slots vs) Hx (gsetAll (gwipe G (own.map (·.2))) t.slots dvs) Mx → R B X.K Fx σ Hx G Mx := fun sx rx => ⟨r2.slots.mono sx, rx.ex, rx.mem, rx.bf, rx.bk⟩
      cases b with
      | true =>
        rw [if_pos rfl] at q3 ⊢
        intro s5 H5 C5 cl5 fp5
        refine q3 s5 H5 C5 cl5 fp5 F3 _ H3 _ r3 fun y H4 F4 d4 M4 ⟨m4, l4, i4⟩ s4 r4 p4 => ?_
        obtain ⟨_, xs, hx, rx⟩ := r4.mem L _ m4
        refine ⟨xs, hx, by rw [rx.length]; exact l4, F4, acc ++ [d4], _, ((s'.trans s2).trans s3).trans s4, ?_, mupd_same, i4⟩
        exact (back (s3.trans s4) r4).write m4 ⟨_, upd_same, rx.append (.cons p4 .nil)⟩
      | false =>
        rw [if_neg Bool.false_ne_true] at q3 ⊢
        exact ⟨F3, acc, M3, (s'.trans s2).trans s3, back s3 r3, q3.1, q3.2⟩
    cases t with
    | inl j => exact main [x] [d] (.cons p2 .nil) tt
    | inr js =>
      obtain ⟨dvs, e, hl, hb⟩ := tt
      subst e
      cases p2 with
      | @tup a xs _ hq ra => exact ⟨a, xs, rfl, sq_same r2.ex hq, by rw [ra.length, hl], gNs_of (by rw [ra.length, hl]) (main xs dvs ra hb)⟩
  · have e : i = ds.length := by omega
    subst e
    exact .inl ⟨w.stops F' σ H' G M' s' r' cM, k L acc H' F' M' (fn acc M' hI hM) hM (s1.trans s') r'⟩
/-- from a comprehension that changes no cell -/
theorem LcP.toM {scope : Scope} {own : List Nat} {t : Tg} {ifs : List Expr} {ds : List D} {f : D → Option D} {C : Mem → Prop} {fin : Addr → List D → Mem → Prop} (lp : LcP B X scope own t ifs elt G ds M f)
    (hC : ∀ M', Ext M M' → C M') (q : ∀ L, M L = none → fin L (ds.filterMap f) (mupd M L (.lst (ds.filterMap f)))) : LcXM B X scope own t ifs elt G ds C M fin := by
  intro L hL
  obtain ⟨hlen, hh⟩ := lp
  refine ⟨fun i acc M' => acc = (ds.take i).filterMap f ∧ M' = mupd M L (.lst acc), ⟨rfl, rfl⟩, ?_, ?_, ?_⟩
  · rintro i acc M' ⟨_, e⟩ _
    rw [e]
    exact hC _ (Ext.new hL)
  · rintro i d acc M' hd ⟨ea, eM⟩ hM
    have hle : ∀ a o, M a = some o → M' a = some o := fun a o e => by rw [eM, mupd_ne (mne e hL)]; exact e
    have tk : (ds.take (i + 1)).filterMap f = (ds.take i).filterMap f ++ (f d).toList := by
      rw [List.take_add_one, hd, List.filterMap_append]
      cases e : f d <;> simp [e]
    have ln : acc.length < sizeLine := by
      have h1 : ((ds.take i).filterMap f).length ≤ (ds.take i).length := List.length_filterMap_le f _
      have h2 : (ds.take i).length ≤ ds.length := by rw [List.length_take]; omega
      rw [ea]; omega
    have step : ∀ dvs, (Bk X scope fun X' => TXs B X' ifs (gsetAll (gwipe G own) t.slots dvs) M' fun b M3 =>
        if b = true then Bk X scope fun X2 => EX B X2 elt (gsetAll (gwipe G own) t.slots dvs) M3 fun y M4 => M4 = M' ∧ f d = some y else M3 = M' ∧ f d = none) →
        Bk X scope fun X' => TXs B X' ifs (gsetAll (gwipe G own) t.slots dvs) M' fun b M3 =>
          if b = true then Bk X scope fun X2 => EX B X2 elt (gsetAll (gwipe G own) t.slots dvs) M3 fun y M4 => M4 L = some (.lst acc) ∧ acc.length < sizeLine ∧ (acc ++ [y] = (ds.take (i + 1)).filterMap f ∧ mupd M4 L (.lst (acc ++ [y])) = mupd M L (.lst (acc ++ [y])))
          else M3 L = some (.lst acc) ∧ (acc = (ds.take (i + 1)).filterMap f ∧ M3 = mupd M L (.lst acc)) := by
      intro dvs hb s0 H0 C cl fp
      have post : ∀ (b : Bool) (M3 : Mem), (if b = true then Bk X scope fun X2 => EX B X2 elt (gsetAll (gwipe G own) t.slots dvs) M3 fun y M4 => M4 = M' ∧ f d = some y else M3 = M' ∧ f d = none) →
          if b = true then Bk X scope fun X2 => EX B X2 elt (gsetAll (gwipe G own) t.slots dvs) M3 fun y M4 => M4 L = some (.lst acc) ∧ acc.length < sizeLine ∧ (acc ++ [y] = (ds.take (i + 1)).filterMap f ∧ mupd M4 L (.lst (acc ++ [y])) = mupd M L (.lst (acc ++ [y])))
          else M3 L = some (.lst acc) ∧ (acc = (ds.take (i + 1)).filterMap f ∧ M3 = mupd M L (.lst acc)) := fun b M3 z =>
        ite_mono z (fun z s1 H1 C1 cl1 fp1 => (z s1 H1 C1 cl1 fp1).imp fun y M4 ⟨e4, ef⟩ => by
          subst e4
          refine ⟨hM, ln, ?_, ?_⟩
          · rw [tk, ef, ← ea]; rfl
          · rw [eM, mupd_mupd]) fun ⟨e3, ef⟩ => by
          subst e3
          refine ⟨hM, ?_, eM⟩
          rw [tk, ef, ← ea]; simp
      have z := hb s0 H0 C cl fp
      match ifs, z with
      | [], z => exact post true M' z
      | [c], z => exact TX.imp z post
    have hh := hh d M' (List.mem_of_getElem? hd) hle
    cases t with
    | inl j => exact step [d] hh
    | inr js =>
      obtain ⟨dvs, e, hl', hb⟩ := hh
      exact ⟨dvs, e, hl', step dvs hb⟩
  · rintro acc M' ⟨ea, eM⟩ hM
    rw [List.take_length] at ea
    rw [eM, ea]
    exact q L hL
theorem Ext.isL {M M' : Mem} {d : D} {ds : List D} (e : Ext M M') (h : IsL M d ds) : IsL M' d ds := by
  rcases h with h | ⟨l, h1, h2⟩
  · exact .inl h
  · exact .inr ⟨l, h1, e _ _ h2⟩
/-- a comprehension that changes no cell, over a list (frozen, or a cell that stays) -/
theorem ex_lci {scope : Scope} {own : List (Str × Nat)} {t : Tg} {ifs : List Expr} (f : D → Option D) (hc : X.calm = true) (hN : X.N.Nodup) (ok : BlkOk X.N X.env.scope scope own) (ht : ∀ i ∈ t.slots, i ∈ own.map (·.2))
    (hg : Bk X scope fun X' => PG X' tg (gTg X.K t)) (hs : ∀ x, foldedSetIterable iter X.env x = pure x)
    (h : EX B X iter G M fun d M1 => ∃ ds, IsL M1 d ds ∧ LcP B X scope (own.map (·.2)) t ifs elt G ds M1 f ∧ Q (.lst (ds.filterMap f)) M1) : EX B X (.ListComp elt [⟨tg, iter, ifs, 0⟩] scope pos) G M Q := fun F σ H Q' r k =>
  WE.of (pe_lc hc hN pi_wi ok hg pts_wtb pe_web hs) (lc_dataM (fin := fun L acc M' => Q (.lst acc) (mdel M' L)) ht r (lxm_isL (h.imp fun d M1 ⟨ds, hL, lp, q⟩ => ⟨ds, hL, lp.toM (fun M' e => e.isL hL) fun L hL => by
      rw [mdel_mupd hL]; exact q⟩)) fun L acc H' F' M' q hm s' r' => by
    obtain ⟨F2, s2, r2, p2⟩ := r'.freeze hm
    exact k _ H' F2 _ _ q (s'.trans s2) r2 p2)
theorem ex_lciM {scope : Scope} {own : List (Str × Nat)} {t : Tg} {ifs : List Expr} (f : D → Option D) (hc : X.calm = true) (hN : X.N.Nodup) (ok : BlkOk X.N X.env.scope scope own) (ht : ∀ i ∈ t.slots, i ∈ own.map (·.2))
    (hg : Bk X scope fun X' => PG X' tg (gTg X.K t)) (hs : ∀ x, foldedSetIterable iter X.env x = pure x)
    (h : EX B X iter G M fun d M1 => ∃ ds, IsL M1 d ds ∧ LcP B X scope (own.map (·.2)) t ifs elt G ds M1 f ∧ ∀ l, M1 l = none → Q (.ref l) (mupd M1 l (.lst (ds.filterMap f)))) : EX B X (.ListComp elt [⟨tg, iter, ifs, 0⟩] scope pos) G M Q := fun F σ H Q' r k =>
  WE.of (pe_lc hc hN pi_wi ok hg pts_wtb pe_web hs) (lc_dataM (fin := fun L acc M' => Q (.ref L) M') ht r (lxm_isL (h.imp fun d M1 ⟨ds, hL, lp, q⟩ => ⟨ds, hL, lp.toM (fun M' e => e.isL hL) fun L hL => q L hL⟩)) fun L acc H' F' M' q hm s' r' => k _ H' F' _ _ q s' r' (.ref L))
theorem sx_setLci {i : Nat} {y : Str} {py spos : Pos} {scope : Scope} {own : List (Str × Nat)} {t : Tg} {ifs : List Expr} (f : D → Option D) (hc : X.calm = true) (hN : X.N.Nodup) (hy : X.N[i]? = some y) (hyl : X.env.scope.names.lookup y = some .local)
    (hsw : swapsWith (.ListComp elt [⟨tg, iter, ifs, 0⟩] scope pos) (some (.Name y py)) spos.line X.env = pure true) (ok : BlkOk X.N X.env.scope scope own) (ht : ∀ i ∈ t.slots, i ∈ own.map (·.2))
    (hg : Bk X scope fun X' => PG X' tg (gTg X.K t)) (hs : ∀ x, foldedSetIterable iter X.env x = pure x)
    (h : EX B X iter G M fun d M1 => ∃ ds, IsL M1 d ds ∧ LcP B X scope (own.map (·.2)) t ifs elt G ds M1 f ∧ E.nx (G.set i (some (.lst (ds.filterMap f)))) M1) : SX B X (.Assign [.Name y py] (.ListComp elt [⟨tg, iter, ifs, 0⟩] scope pos) spos) E G M := fun F σ H D' r k =>
  WS.of (ps_setLc hc hN hy hyl hsw pi_wi ok hg pts_wtb pe_web hs) (lc_dataM (fin := fun L acc M' => E.nx (G.set i (some (.lst acc))) (mdel M' L)) ht r (lxm_isL (h.imp fun d M1 ⟨ds, hL, lp, q⟩ => ⟨ds, hL, lp.toM (fun M' e => e.isL hL) fun L hL => by
      rw [mdel_mupd hL]; exact q⟩)) fun L acc H' F' M' q hm s' r' => by
    obtain ⟨F2, s2, r2, p2⟩ := r'.freeze hm
    exact k.nx _ H' F2 _ _ q (s'.trans s2) (R.set r2 p2))
end
/-! ### fields -/
/-- the class at C, and names that it has not -/
structure Ki (K : PySem.W.Frag) (C : Addr) (l : List Str) : Prop where
  cls : Cls K C
  no : ∀ f ∈ l, NoAttr K C f
theorem lk_hit {k : Str} {d : D} {r : List (Str × D)} : List.lookup k ((k, d) :: r) = some d := by simp [List.lookup]
theorem lk_skip {k k' : Str} {d e : D} {r : List (Str × D)} (h : (k == k') = false) (q : List.lookup k r = some e) : List.lookup k ((k', d) :: r) = some e := by simp [List.lookup, h, q]
theorem lk_nil {k : Str} : List.lookup k ([] : List (Str × D)) = none := rfl
theorem lk_none {k k' : Str} {d : D} {r : List (Str × D)} (h : (k == k') = false) (q : List.lookup k r = none) : List.lookup k ((k', d) :: r) = none := by simp [List.lookup, h, q]
theorem put_hit {k : Str} {d e : D} {r : List (Str × D)} : putD k d ((k, e) :: r) = (k, d) :: r := by simp [putD]
theorem put_skip {k k' : Str} {d e : D} {r r' : List (Str × D)} (h : (k' == k) = false) (q : putD k d r = r') : putD k d ((k', e) :: r) = (k', e) :: r' := by
  have h' : ¬ k' = k := by simpa using h
  rw [putD, if_neg h', q]
theorem put_nil {k : Str} {d : D} : putD k d [] = [(k, d)] := rfl
section
variable {B : Bs} {X : Cx} {a b c e o value : Expr} {es : List Expr} {G G' : Sl} {M M' : Mem} {Q : D → Mem → Prop} {E : En} {pos p pos' apos : Pos} {f : Str}
theorem fld_at {K : PySem.W.Frag} {x C : Addr} {fs : List (Str × D)} {v : D} {l : List Str} (hm : M x = some (.ins C fs)) (k : Ki K C l) (hf : f ∈ l) (hl : fs.lookup f = some v) (q : Q v M) :
    ∃ a C fs v, D.ref x = .ref a ∧ M a = some (.ins C fs) ∧ Cls K C ∧ NoAttr K C f ∧ fs.lookup f = some v ∧ Q v M := ⟨x, C, fs, v, rfl, hm, k.cls, k.no f hf, hl, q⟩
theorem sx_fldK (hs : swapsWith value (some (.Attribute o f pos')) pos.line X.env = pure false) (h : EX B X value G M fun d M1 => EX B X o G M1 fun d2 M2 => ∃ x C fs fs' l, d2 = .ref x ∧ M2 x = some (.ins C fs) ∧ Ki X.K C l ∧ f ∈ l ∧ fs.length < 1000 ∧ putD f d fs = fs' ∧ E.nx G (mupd M2 x (.ins C fs'))) :
    SX B X (.Assign [.Attribute o f pos'] value pos) E G M :=
  fun F σ H D' r k =>
  WS.of (ps_fld pe_we pe_we hs) (h F σ H _ r fun v1 H1 F1 d1 M1 q1 s1 r1 p1 => q1 F1 σ H1 _ r1 fun v2 H2 F2 d2 M2 ⟨a, C, fs, fs', l, e2, hm, kk, hf, hl, hput, q⟩ s2 r2 p2 => by
    subst e2; cases p2; subst hput
    obtain ⟨_, dx, vs, hx, rx⟩ := r2.mem a _ hm
    refine ⟨a, C, dx, vs, rfl, hx, kk.cls, kk.no f hf, by rw [rx.len]; exact hl, k.nx _ _ F2 _ _ q (s1.trans s2) (r2.write hm ⟨dx, _, upd_same, rx.put (p1.mono s2)⟩)⟩)
theorem put_at {K : PySem.W.Frag} {x C : Addr} {fs fs' : List (Str × D)} {d : D} {l : List Str} {P : Mem → Prop} (hm : M x = some (.ins C fs)) (k : Ki K C l) (hf : f ∈ l) (hl : fs.length < 1000) (hp : putD f d fs = fs') (q : P (mupd M x (.ins C fs'))) :
    ∃ x' C fs fs' l, D.ref x = .ref x' ∧ M x' = some (.ins C fs) ∧ Ki K C l ∧ f ∈ l ∧ fs.length < 1000 ∧ putD f d fs = fs' ∧ P (mupd M x' (.ins C fs')) := ⟨x, C, fs, fs', l, rfl, hm, k, hf, hl, hp, q⟩
/-- o.m(e, ..), the class by the receiver -/
theorem ex_methV {pl : Sem Bool} {m : Str} (hst : starEach (e :: es) X.env = (false, eval e X.env) :: starEach es X.env) (hpl : (backTo pos (starEach es X.env)).any (·.1) = false)
    (ht : eval (.Call (.Attribute o m apos) (e :: es) [] pos) X.env = (do
      let ov ← eval o X.env
      standAt apos.atName
      let (f, first) ← holding [ov] (getMethod ov m pl)
      callWith pos f first (backTo pos (starEach (e :: es) X.env)) (backToKw pos (keywordEach [] X.env))))
    (h : EX B X o G M fun d M1 => ∃ a C fs k sp, d = .ref a ∧ M1 a = some (.ins C fs) ∧ Mth X.prog X.w X.K X.mg X.base k C m sp ∧ Room k X.A ∧ fs.lookup m = none ∧ AX B X (e :: es) G M1 fun ds M2 => sp (.ref a :: ds) M2 Q) : EX B X (.Call (.Attribute o m apos) (e :: es) [] pos) G M Q := fun F σ H Q' r kk => by
  intro pins s I
  refine PySem.W.methodCall_KW (pl := pl) (thn (h F σ H (fun x H1 => ∃ a C dx fs f fd ps sp k, x = .ref a ∧ H1 a = some (.ins C dx fs) ∧ fs.lookup m = none ∧ FnOk X.prog X.w X.K X.mg X.base CX0 k f fd ps (lift X.K sp) ∧ Cls X.K C ∧ Meth X.K C m f ∧ Binds X.K fd ps [] ∧ Room k X.A ∧ WA X (e :: es) σ H1 fun vs H2 => lift X.K sp (.ref a :: vs) H2 Q' E0) r ?_ pins s I) fun u s1 ⟨x, H1, I1, rx, a, C, dx, fs, f, fd, ps, sp, k, ex, ea, l, Fo, cl, me, bd, hr, q⟩ => ?_) ht
  · rintro v H1 F1 d1 M1 ⟨a, C, fs, k, sp, e1, hm, c, hr, l, q⟩ s1 r1 p1
    subst e1; cases p1
    obtain ⟨f, fd, ps, Fo, cl, me, bd⟩ := c.ex
    obtain ⟨_, dx, vs, hx, rx⟩ := r1.mem a _ hm
    refine ⟨a, C, dx, vs, f, fd, ps, sp, k, rfl, hx, rx.none l, Fo, cl, me, bd, hr, q F1 σ H1 _ r1 fun us H2 F2 ds M2 q2 s2 r2 p2 => ?_⟩
    exact lift_use r2 (.cons (.ref a) p2) q2 (kk.mono (s1.trans s2))
  · subst ex
    obtain rfl : u = Value.ref a := rx
    refine getmeth_ok I1 ea cl me l ?_
    refine PySem.W.callWith_K (first := [.ref a]) (h₀ := X.base) I.ok.mod.kin me.kp (thn (q pos pins s1 I1) fun us s2 ⟨vs, H2, I2, r, q2⟩ => ⟨I2.kIn, ?_⟩) hst hpl
    exact run_fn (us := .ref a :: us) (vs := .ref a :: vs) (dvs := []) (ds := []) Fo hr bd .nil pass0 I2 (.cons rfl r) (by rw [List.append_nil]; exact q2)
theorem ex_methV0 {pl : Sem Bool} {m : Str}
    (ht : eval (.Call (.Attribute o m apos) [] [] pos) X.env = (do
      let ov ← eval o X.env
      standAt apos.atName
      let (f, first) ← holding [ov] (getMethod ov m pl)
      callWith pos f first (backTo pos (starEach [] X.env)) (backToKw pos (keywordEach [] X.env))))
    (h : EX B X o G M fun d M1 => ∃ a C fs k sp, d = .ref a ∧ M1 a = some (.ins C fs) ∧ Mth X.prog X.w X.K X.mg X.base k C m sp ∧ Room k X.A ∧ fs.lookup m = none ∧ sp [.ref a] M1 Q) : EX B X (.Call (.Attribute o m apos) [] [] pos) G M Q := fun F σ H Q' r kk => by
  intro pins s I
  refine PySem.W.methodCall_KW (pl := pl) (thn (h F σ H (fun x H1 => ∃ a C dx fs f fd ps sp k, x = .ref a ∧ H1 a = some (.ins C dx fs) ∧ fs.lookup m = none ∧ FnOk X.prog X.w X.K X.mg X.base CX0 k f fd ps (lift X.K sp) ∧ Cls X.K C ∧ Meth X.K C m f ∧ Binds X.K fd ps [] ∧ Room k X.A ∧ lift X.K sp [.ref a] H1 Q' E0) r ?_ pins s I) fun u s1 ⟨x, H1, I1, rx, a, C, dx, fs, f, fd, ps, sp, k, ex, ea, l, Fo, cl, me, bd, hr, q⟩ => ?_) ht
  · rintro v H1 F1 d1 M1 ⟨a, C, fs, k, sp, e1, hm, c, hr, l, q⟩ s1 r1 p1
    subst e1; cases p1
    obtain ⟨f, fd, ps, Fo, cl, me, bd⟩ := c.ex
    obtain ⟨_, dx, vs, hx, rx⟩ := r1.mem a _ hm
    exact ⟨a, C, dx, vs, f, fd, ps, sp, k, rfl, hx, rx.none l, Fo, cl, me, bd, hr, lift_use r1 (.cons (.ref a) .nil) q (kk.mono s1)⟩
  · subst ex
    obtain rfl : u = Value.ref a := rx
    refine getmeth_ok I1 ea cl me l ?_
    exact PySem.W.callWith_K0 (first := [.ref a]) I1.kIn me.kp (run_fn (us := [.ref a]) (vs := [.ref a]) (dvs := []) (ds := []) Fo hr bd .nil pass0 I1 (.cons rfl .nil) q)
theorem meth_at {P : Program} {w : World} {K : PySem.W.Frag} {mg : Str → Option Value} {base : Heap} {A : Around} {x C : Addr} {fs : List (Str × D)} {k : Nat} {m : Str} {sp : DSp} {P2 : Addr → DSp → Prop} (hm : M x = some (.ins C fs)) (c : Mth P w K mg base k C m sp) (hr : Room k A) (hl : fs.lookup m = none) (q : P2 x sp) :
    ∃ a C fs k sp, D.ref x = .ref a ∧ M a = some (.ins C fs) ∧ Mth P w K mg base k C m sp ∧ Room k A ∧ fs.lookup m = none ∧ P2 a sp := ⟨x, C, fs, k, sp, rfl, hm, c, hr, hl, q⟩
end
end FL

/-! dicts by numbers and texts: displays, get -/
namespace FL
open PySem PySem.Spec PyProof.Rows L2
def kD : Key → D
  | .inl i => .int i
  | .inr x => .str x
def valD (kds : List (Key × D)) (k : Key) : Option D := (kds.find? fun kd => decide (kd.1 = k)).map (·.2)
/-- a dict of kds: frozen, or a cell -/
def IsK (M : Mem) (d : D) (kds : List (Key × D)) : Prop := d = .dK kds ∨ ∃ l, d = .ref l ∧ M l = some (.dK kds)
section
variable {K : PySem.W.Frag} {F : Hp}
theorem RpKey.val {k : Key} : ∀ {kvs : List (Key × V)} {kds : List (Key × D)}, RpKey K F kvs kds → (valV kvs k = none ∧ valD kds k = none) ∨ ∃ v d, valV kvs k = some v ∧ valD kds k = some d ∧ Rp K F v d
  | _, _, .nil => .inl ⟨rfl, rfl⟩
  | _, _, @RpKey.cons _ _ k' v vs d ds p r => by
    by_cases e : k' = k
    · exact .inr ⟨v, d, valV_pos (p := (k', v)) e, by unfold valD; simp [e], p⟩
    · have e1 : valV ((k', v) :: vs) k = valV vs k := valV_neg (p := (k', v)) e
      have e2 : valD ((k', d) :: ds) k = valD ds k := by unfold valD; simp [e]
      rw [e1, e2]
      exact r.val
theorem Rp.key {v : V} {k : Key} (h : Rp K F v (kD k)) : v = kV k := by
  cases k with
  | inl i => cases h; rfl
  | inr x => cases h; rfl
theorem putK_app {kvs : List (Key × V)} {k : Key} {v : V} (h : k ∉ kvs.map (·.1)) : putK kvs k v = kvs ++ [(k, v)] := by
  unfold putK
  rw [if_neg]
  intro z
  obtain ⟨kv, h1, h2⟩ := List.any_eq_true.mp z
  exact h (List.mem_map.mpr ⟨kv, h1, of_decide_eq_true h2⟩)
theorem mergeK_app : ∀ {more kvs : List (Key × V)}, ((kvs ++ more).map (·.1)).Nodup → mergeK kvs more = kvs ++ more
  | [], kvs, _ => by unfold mergeK; simp
  | (k, v) :: more, kvs, h => by
    have e : mergeK kvs ((k, v) :: more) = mergeK (putK kvs k v) more := rfl
    have hk : k ∉ kvs.map (·.1) := by
      intro z
      rw [List.map_append, List.nodup_append] at h
      exact h.2.2 k z k (by simp) rfl
    rw [e, putK_app hk, mergeK_app (by simpa using h)]
    simp
end
inductive RpP (K : PySem.W.Frag) (F : Hp) : List (V × V) → List (D × D) → Prop
  | nil : RpP K F [] []
  | cons {v w : V} {d e : D} {vs : List (V × V)} {ds : List (D × D)} : Rp K F v d → Rp K F w e → RpP K F vs ds → RpP K F ((v, w) :: vs) ((d, e) :: ds)
theorem RpP.mono {K : PySem.W.Frag} {F F' : Hp} (s : Same F F') : ∀ {vs : List (V × V)} {ds : List (D × D)}, RpP K F vs ds → RpP K F' vs ds
  | _, _, .nil => .nil
  | _, _, .cons a b r => .cons (a.mono s) (b.mono s) (RpP.mono s r)
theorem RpP.keys {K : PySem.W.Frag} {F : Hp} : ∀ {vs : List (V × V)} {kds : List (Key × D)}, RpP K F vs (kds.map fun kd => (kD kd.1, kd.2)) → ∃ kvs : List (Key × V), vs = kvs.map (fun kv => (kV kv.1, kv.2)) ∧ RpKey K F kvs kds ∧ kvs.map (·.1) = kds.map (·.1)
  | vs, [], h => by cases h; exact ⟨[], rfl, .nil, rfl⟩
  | vs, (k, d) :: kds, h => by
    rw [List.map_cons] at h
    cases h with
    | @cons v w _ _ vs' _ a b r =>
      obtain ⟨kvs, e, rk, ek⟩ := r.keys
      have ev := a.key
      subst ev
      exact ⟨(k, w) :: kvs, by rw [e]; rfl, .cons b rk, by rw [List.map_cons, List.map_cons, ek]⟩
def PX (B : Bs) (X : Cx) : List (Option Expr) → List Expr → Sl → Mem → (List (D × D) → Mem → Prop) → Prop
  | some k :: ks, v :: vs, G, M, Q => EX B X k G M fun x M1 => EX B X v G M1 fun y M2 => PX B X ks vs G M2 fun ps M3 => Q ((x, y) :: ps) M3
  | [], [], _, M, Q => Q [] M
  | _, _, _, _, _ => False
def trsOf (X : Cx) : List (Option Expr) → List Expr → List (TE × TE)
  | some k :: ks, v :: vs => (WE X k, WE X v) :: trsOf X ks vs
  | _, _ => []
theorem pps_px {B : Bs} {X : Cx} {pos : Pos} : ∀ {ks : List (Option Expr)} {vs : List Expr}, ks.all (·.isSome) = true → ks.length = vs.length → PPs X pos ks vs (trsOf X ks vs)
  | [], [], _, _ => pps_nil
  | [], _ :: _, _, h => by simp at h
  | _ :: _, [], _, h => by simp at h
  | none :: _, _ :: _, h, _ => by simp at h
  | some k :: ks, v :: vs, h, hl => pps_cons pe_we pe_we (pps_px (B := B) (by simpa using h) (by simpa using hl))
theorem px_run {B : Bs} {X : Cx} {G : Sl} {σ : L2.St} : ∀ {ks : List (Option Expr)} {vs : List Expr} {M : Mem} {F H : Hp} {Q : List (D × D) → Mem → Prop} {Q' : List (V × V) → Hp → Prop}, PX B X ks vs G M Q → R B X.K F σ H G M →
    (∀ ps H' F' ds M', Q ds M' → Same F F' → R B X.K F' σ H' G M' → RpP X.K F' ps ds → Q' ps H') → tPairs (trsOf X ks vs) σ H Q'
  | [], [], M, F, H, Q, Q', h, r, k => k [] H F [] M h (Same.refl F) r .nil
  | some a :: ks, b :: vs, M, F, H, Q, Q', h, r, k => by
    show WE X a σ H fun x H1 => WE X b σ H1 fun y H2 => tPairs (trsOf X ks vs) σ H2 fun ps H3 => Q' ((x, y) :: ps) H3
    have h' : EX B X a G M fun x M1 => EX B X b G M1 fun y M2 => PX B X ks vs G M2 fun ps M3 => Q ((x, y) :: ps) M3 := h
    refine h' F σ H _ r fun v1 H1 F1 d1 M1 q1 s1 r1 p1 => q1 F1 σ H1 _ r1 fun v2 H2 F2 d2 M2 q2 s2 r2 p2 => ?_
    exact px_run q2 r2 fun ps H3 F3 ds M3 q3 s3 r3 p3 => k _ H3 F3 _ M3 q3 (s1.trans (s2.trans s3)) r3 (.cons (p1.mono (s2.trans s3)) (p2.mono s3) p3)
  | [], _ :: _, _, _, _, _, _, h, _, _ => False.elim h
  | none :: _, _, _, _, _, _, _, h, _, _ => False.elim h
  | some _ :: _, [], _, _, _, _, _, h, _, _ => False.elim h
section
variable {B : Bs} {X : Cx} {a b c e o f : Expr} {G : Sl} {M : Mem} {Q : D → Mem → Prop} {pos apos : Pos}
/-- a test that comes out so, and changes nothing -/
theorem sx_ifF {A1 B1 : List Stmt} {E : En} (h : TX B X c G M fun t M1 => t = false ∧ M1 = M) (q : SXs B X B1 E G M) : SX B X (.If c A1 B1 pos) E G M := sx_if (h.imp fun t M1 ⟨e1, e2⟩ => by subst e1; subst e2; exact iteF q)
theorem sx_ifT {A1 B1 : List Stmt} {E : En} (h : TX B X c G M fun t M1 => t = true ∧ M1 = M) (q : SXs B X A1 E G M) : SX B X (.If c A1 B1 pos) E G M := sx_if (h.imp fun t M1 ⟨e1, e2⟩ => by subst e1; subst e2; exact iteT q)
/-- .. whichever way -/
theorem sx_ifB {A1 B1 : List Stmt} {E : En} (t0 : Bool) (h : TX B X c G M fun t M1 => t = t0 ∧ M1 = M) (q1 : t0 = true → SXs B X A1 E G M) (q2 : t0 = false → SXs B X B1 E G M) : SX B X (.If c A1 B1 pos) E G M := sx_if (h.imp fun t M1 ⟨e1, e2⟩ => by
  subst e1; subst e2
  cases t with
  | true => exact iteT (q1 rfl)
  | false => exact iteF (q2 rfl))
/-- .. and leaves cells of which Pm holds -/
theorem sx_ifQ {A1 B1 : List Stmt} {E : En} (Pm : Mem → Prop) (h : TX B X c G M fun t M1 => t = false ∧ Pm M1) (q : ∀ M1, Pm M1 → SXs B X B1 E G M1) : SX B X (.If c A1 B1 pos) E G M := sx_if (h.imp fun t M1 ⟨e1, e2⟩ => by subst e1; exact iteF (q M1 e2))
theorem px_cons {ks : List (Option Expr)} {vs : List Expr} {Q : List (D × D) → Mem → Prop} (h : EX B X a G M fun x M1 => EX B X b G M1 fun y M2 => PX B X ks vs G M2 fun ps M3 => Q ((x, y) :: ps) M3) : PX B X (some a :: ks) (b :: vs) G M Q := h
theorem px_nil {Q : List (D × D) → Mem → Prop} (h : Q [] M) : PX B X [] [] G M Q := h
/-- a dict that stays -/
theorem ex_disp {keys : List (Option Expr)} {values : List Expr} (hall : keys.all (·.isSome) = true) (hl : keys.length = values.length) (h0 : keys ≠ []) (h15 : keys.length ≤ 15)
    (h : ∀ p, M p = none → PX B X keys values G (mupd M p (.dK [])) fun ps M2 => M2 p = some (.dK []) ∧ ∃ kds : List (Key × D), ps = kds.map (fun kd => (kD kd.1, kd.2)) ∧ (kds.map (·.1)).Nodup ∧ kds.length ≤ 15 ∧ Q (.dK kds) (mdel M2 p)) : EX B X (.Dict keys values pos) G M Q := fun F σ H Q' r k =>
  WE.of (pe_disp (pps_px (B := B) hall hl) hall hl h0 h15) fun p hp => px_run (h p (r.freeM hp)) (r.newCell hp ⟨[], upd_same, .nil⟩) fun ps H2 F2 ds M2 q s2 r2 rp => by
    obtain ⟨hm, kds, e, nd, l15, q⟩ := q
    subst e
    obtain ⟨kvs, e, rk, ek⟩ := rp.keys
    obtain ⟨fp, vs, hx, rx⟩ := r2.mem p _ hm
    cases rx
    refine ⟨hx, kvs, e, ?_, ?_⟩
    · have := congrArg List.length ek
      rw [List.length_map, List.length_map] at this
      omega
    · have em : mergeK [] kvs = kvs := by
        rw [mergeK_app (kvs := []) (by rw [List.nil_append, ek]; exact nd)]; simp
      rw [em]
      have r3 := r2.write (ho := .dK kvs) (o' := .dK kds) hm ⟨kvs, upd_same, rk⟩
      have e1 : Same F2 (upd F2 p (.dK kvs)) := Same.upd_new fp
      have r4 : R B X.K F2 σ (upd H2 p (.dK kvs)) G (mdel M2 p) := r3.less fun a o q => by
        unfold mdel at q
        split at q
        · cases q
        · rename_i hb
          rw [mupd_ne hb]; exact q
      refine k _ _ (upd F2 p (.dK kvs)) _ _ q (s2.trans e1) (R.grow e1 (fun b u q => ?_) (fun a u q => ?_) r4) (.dK upd_same (rk.mono e1))
      · by_cases hb : b = p
        · subst hb; rw [upd_same] at q ⊢; exact q
        · rw [upd_ne hb] at q; exact r4.ex b u q
      · have hb : a ≠ p := fun z => by
          subst z
          unfold mdel at q
          rw [if_pos rfl] at q; cases q
        rw [upd_ne hb]; exact (r4.mem a u q).1
theorem IsK.at {K : PySem.W.Frag} {F H : Hp} {σ : L2.St} {d : D} {kds : List (Key × D)} {v : V} (h : IsK M d kds) (r : R B K F σ H G M) (p : Rp K F v d) : ∃ a kvs, v = .ref a ∧ H a = some (.dK kvs) ∧ RpKey K F kvs kds := by
  rcases h with rfl | ⟨l, rfl, hm⟩
  · cases p with
    | @dK a kvs _ hs rs => exact ⟨a, kvs, rfl, r.ex _ _ hs, rs⟩
  · cases p
    obtain ⟨_, kvs, hx, rx⟩ := r.mem l _ hm
    exact ⟨l, kvs, rfl, hx, rx⟩
/-- d.get(k, x) -/
theorem ex_dget2 (hu : X.A.units + 1 < cLine) (m : M2 X o "get" apos e f pos)
    (h : EX B X o G M fun d M1 => ∃ kds, IsK M1 d kds ∧ EX B X e G M1 fun y M2 => EX B X f G M2 fun z M3 => ∃ k, y = kD k ∧ IsK M3 d kds ∧ Q ((valD kds k).getD z) M3) : EX B X (.Call (.Attribute o "get" apos) [e, f] [] pos) G M Q := fun F σ H Q' r k =>
  WE.of (pe_dget2 hu pe_we pe_we pe_we m) (h F σ H _ r fun v1 H1 F1 d1 M1 ⟨kds, hk, q1⟩ s1 r1 p1 => by
    obtain ⟨a, kvs, rfl, hx, rx⟩ := hk.at r1 p1
    refine ⟨a, rfl, .inl ⟨kvs, .inl hx⟩, q1 F1 σ H1 _ r1 fun v2 H2 F2 d2 M2 q2 s2 r2 p2 => q2 F2 σ H2 _ r2 fun v3 H3 F3 d3 M3 ⟨kk, ey, hk3, q3⟩ s3 r3 p3 => ?_⟩
    subst ey
    have ev := p2.key
    subst ev
    obtain ⟨a', kvs', e', hx', rx'⟩ := hk3.at r3 (p1.mono (s2.trans s3))
    cases e'
    refine ⟨valV kvs' kk, DGet.k hx', ?_⟩
    have kk3 := k.mono (s1.trans (s2.trans s3))
    rcases rx'.val (k := kk) with ⟨e1, e2⟩ | ⟨v, d, e1, e2, rv⟩
    · rw [e1]
      rw [e2] at q3
      exact kk3.at r3 q3 p3
    · rw [e1]
      rw [e2] at q3
      exact kk3.at r3 q3 rv)
end
end FL

/-! sorted(set(a list of numbers)) -/
namespace FL
open PySem PySem.Spec PyProof.Rows L2
abbrev newSetO (u : World) : Obj := { cls := .type "set", dict := none, data := .set #[] 0 (.fresh 0 0 (!u.params.followText "set-order")) }
section
variable {prg : Program} {u : World} {Ar : Around} {Ex : Value → Shared → Prop} {sh : Shared}
set_option maxHeartbeats 3200000 in
theorem setOfList {lo : Addr} {its : Array Value} (zs : List Int) {W : Value → Shared → Prop} (calm : Ar.handled = none) (isl : sh.heap.IsList lo its) (intsAt : IntsAre its.toList zs) (room : zs.length + 1 < scanBound)
    (goal : ∀ (hp' : Heap) (tok cnt : Nat), SetR u hp' sh.heap.objs.size (fun z => decide (z ∈ zs)) cnt → cnt ≤ zs.length → (∀ x ob, sh.heap.get? x = some ob → hp'.get? x = some ob) → W (.ref sh.heap.objs.size) { sh with heap := hp', toks := tok }) :
    wpAny (model prg u) Ar (call (.type "set") [.ref lo]) W Ex sh := by
  have sizes : its.size = zs.length := by have z := IntsAre.length intsAt; rwa [Array.length_toList] at z
  obtain ⟨x1, x2, x3⟩ := F.called_set.mro
  have x4 := F.called_set.made
  have x5 := F.called_set.sub
  refine wpAny_call (codeAny_of_tree ?_)
  show wpAny (model prg u) _ (callAny (.type "set") _) _ _ sh
  refine wpAny_pure ⟨Code.quiet_builtin _ (by decide +kernel : _), codeAny_builtin F.entry_type_call ?_⟩
  rw [Around.under_plain (weight_type_call_type "set" [Value.ref lo] []) rfl]
  have x6 := F.called_set.notType
  have x7 := F.called_set.canCreate
  have x8 := F.typeCall_set_1 (.ref lo)
  repeat (any_goals (first | (assumption) | (wp_step)))
  refine codeAny_mono (code_set_led1 (.ref lo) (E := Ex) (Q₁ := fun ob st => ob = .ref sh.heap.objs.size ∧ st = { sh with heap := sh.heap.push (newSetO u) }) ⟨rfl, rfl⟩) fun res st hst => ?_
  cases res with
  | error er => exact hst
  | ok fw =>
    cases fw with
    | ret ob =>
      obtain ⟨rfl, rfl⟩ := hst
      have there : (sh.heap.push (newSetO u)).get? sh.heap.objs.size = some (newSetO u) := Heap.get?_push_size _ rfl
      have typ : Shared.TypeIs { sh with heap := sh.heap.push (newSetO u) } (.ref sh.heap.objs.size) "set" := ⟨_, there, rfl⟩
      have y1 := F.called_set.init.lookup
      have y2 := F.called_set.init.bind (.ref sh.heap.objs.size)
      repeat (any_goals (first | (assumption) | (wp_step)))
      refine codeAny_mono (codeAny_call_builtin (R := wants (fun rv st2 => rv = .none ∧ ∃ hp' tok cnt, st2 = { sh with heap := hp', toks := tok } ∧ SetR u hp' sh.heap.objs.size (fun z => decide (z ∈ zs)) cnt ∧ cnt ≤ zs.length ∧ (∀ x o2, sh.heap.get? x = some o2 → hp'.get? x = some o2)) Ex) F.called_set.init.plain F.entry_set_init (check_set_init_1 typ ?_)) fun rv2 st2 hst2 => ?_
      · obtain ⟨oL, gL, cL, nL, dL⟩ := isl
        obtain ⟨k1, k2, k3, k4⟩ := oL
        simp only at cL dL
        subst cL
        subst dL
        have gL' : (sh.heap.push (newSetO u)).get? lo = some { cls := .type "list", dict := k2, data := .seq its nL, slots := k4 } := Heap.get?_push_of_some _ gL
        have y3 := F.sub_list_set
        have y4 := F.sub_list_frozenset
        have y5 : (Value.type "list" == Value.type "dict") = false := (by decide)
        have isl2 : (sh.heap.push (newSetO u)).IsList lo its := ⟨_, gL', rfl, nL, rfl⟩
        unfold Builtin.«set.__init__»
        unfold noKeywords
        unfold Builtin.Frozenset.updateFrom
        generalize hIter : pyIter = ITER
        wp_walk
        subst hIter
        refine wpAny_pyIter_list isl2 (wpAny_bind (wpAny_runValue ?_))
        have small : lo < sh.heap.objs.size := Heap.lt_size gL
        have calm3 : Ar.in1.in1.in1.handled = none := (by simp [calm])
        have ne1 : lo ≠ (sh.heap.push (newSetO u)).objs.size := by rw [Heap.size_push]; exact Nat.ne_of_lt (Nat.lt_succ_of_lt small)
        have out1 : sh.heap.objs.size ∉ [(sh.heap.push (newSetO u)).objs.size, lo] := by
          simp only [Heap.size_push, List.mem_cons, List.mem_singleton, List.not_mem_nil, or_false, not_or]
          exact ⟨Nat.ne_of_lt (Nat.lt_succ_self _), Nat.ne_of_gt small⟩
        have vals : ∀ (i : Nat) (v : Value), its[i]? = some v → ∃ z t, zs[i]? = some z ∧ v = .int z t := fun i v hv => by
          have hi : i < zs.length := sizes ▸ (Array.getElem?_eq_some_iff.mp hv).1
          obtain ⟨t, et⟩ := PyProof.Rows.IntsAre.int_at intsAt i v ((Array.getElem?_toList).trans hv)
          refine ⟨zs[i], t, List.getElem?_eq_getElem hi, et.trans ?_⟩
          rw [List.getD_eq_getElem?_getD, List.getElem?_eq_getElem hi]; rfl
        refine set_update_ints ((Walks.list calm3 _ lo ne1 its).toS) sh.heap.objs.size out1 zs sizes room vals (its.size - 0) 0 _ (by omega) (Nat.zero_le _) ⟨⟨_, Heap.get?_push_size _ rfl, rfl, rfl⟩, (isl2.push _)⟩ ?first ?last
        case first => exact ⟨0, Nat.le_refl 0, setR_new_at (Heap.get?_push_of_some _ there)⟩
        case last =>
          intro st3 cnt moved hcnt hset
          obtain ⟨hp', gn, dr, tok, osx⟩ := st3
          have q1 : gn = sh.gens := moved.gens
          have q2 : dr = sh.drawn := moved.drawn
          have q3 : osx = sh.os := moved.os
          subst q1 q2 q3
          show wpAny (model prg u) _ _ _ _ _
          refine wpAny_pure ?_
          show wpAny (model prg u) _ (ret Value.none) _ _ _
          rw [sizes] at hcnt
          refine wpAny_pure ⟨rfl, hp', tok, cnt, rfl, hset, hcnt, fun x o2 ex => ?_⟩
          have b0 : x < sh.heap.objs.size := Heap.lt_size ex
          have b2 : x ≠ (sh.heap.push (newSetO u)).objs.size := by rw [Heap.size_push]; exact Nat.ne_of_lt (Nat.lt_succ_of_lt b0)
          refine moved.heap x o2 ?_ (Heap.get?_push_of_some _ (Heap.get?_push_of_some _ ex))
          simp only [List.mem_cons, List.mem_singleton, List.not_mem_nil, or_false, not_or]
          exact ⟨Nat.ne_of_lt b0, b2⟩
      · cases rv2 with
        | error er => exact hst2
        | ok fw2 =>
          cases fw2 with
          | ret rr =>
            obtain ⟨rfl, hp', tok, cnt, rfl, f1, f2, f3⟩ := hst2
            repeat (any_goals (first | (assumption) | (wp_step)))
            exact goal hp' tok cnt f1 f2 f3
          | _ => exact hst2.elim
    | _ => exact hst.elim
end
section
variable {X : Cx}
def rSetL (K : PySem.W.Frag) (u : World) : List V → Hp → VK → Prop := fun xs H Q => ∃ (l : Addr) (zs : List Int), xs = [.ref l] ∧ SqL K H l (zs.map V.int) ∧ zs.length ≤ 1000 ∧ ∀ p c, H p = none → c ≤ zs.length → Q (.ref p) (upd H p (SetO u p (fun z => decide (z ∈ zs)) c))
theorem cr_setL (hc : X.calm = true) : CallR X (.type "set") (rSetL X.K X.w) := by
  intro pins s σ H xs us Q I r h
  obtain ⟨l, zs, rfl, hq, hl, q⟩ := h
  obtain ⟨v, rfl, rv⟩ := vals1 r
  cases rv
  obtain ⟨its, ri, ⟨ob, n, e1, e2, e3, e4⟩, hz⟩ := I.list hq
  refine setOfList zs (I.ok.hd hc) (show s.heap.IsList l its.toArray from ⟨ob, e1, e2, n, e4⟩) (ints_of_vals ri) (by unfold scanBound; omega) fun hp' tok cnt hs hcnt kp => ?_
  exact ⟨.ref _, upd H s.heap.objs.size (SetO X.w s.heap.objs.size (fun z => decide (z ∈ zs)) cnt), I.laid (t' := tok) kp (Nat.le_refl _) (setO_new hs), rfl, q _ _ (I.hok.fresh (Nat.le_refl _)) hcnt⟩
end
section
variable {B : Bs} {X : Cx} {G : Sl} {M : Mem} {Q : D → Mem → Prop} {e : Expr} {p p2 pos pos2 : Pos}
/-- sorted(set(e)) -/
theorem ex_sortedSet (hc : X.calm = true) (cs : Blt X "sorted" (.builtin "sorted")) (ct : Blt X "set" (.type "set")) (n1 : starEach [e] X.env = (false, eval e X.env) :: starEach [] X.env)
    (n2 : starEach [Expr.Call (.Name "set" p2) [e] [] pos2] X.env = (false, eval (Expr.Call (.Name "set" p2) [e] [] pos2) X.env) :: starEach [] X.env) (hp1 : (backTo pos2 (starEach [] X.env)).any (·.1) = false) (hp2 : (backTo pos (starEach [] X.env)).any (·.1) = false)
    (h : EX B X e G M fun d M1 => ∃ zs : List Int, IsL M1 d (zs.map D.int) ∧ zs.length < 64 ∧ ∀ out : List Int, out.Pairwise (· < ·) → (∀ z, z ∈ out ↔ z ∈ zs) → Q (.lst (out.map D.int)) M1) :
    EX B X (.Call (.Name "sorted" p) [.Call (.Name "set" p2) [e] [] pos2] [] pos) G M Q := fun F σ H Q' r k =>
  WE.of (pe_callB (cr_sortedSet hc) cs.g cs.m cs.v (pa_cons (pe_callTy (cr_setL hc) ct.g ct.m ct.v (pa_cons pe_we pa_nil n1) ct.n ct.d n1 hp1) pa_nil n2) cs.n cs.d n2 hp2) (h F σ H _ r fun v H1 F1 d1 M1 ⟨zs, hL, h64, q⟩ s1 r1 p1 => by
    obtain ⟨a, xs, rfl, hx, rx⟩ := hL.at r1 p1
    have ex := RpAll.ints_of rx
    subst ex
    refine ⟨a, zs, rfl, SqL.of hx, by omega, fun pp c hpp hcc => ?_⟩
    refine ⟨pp, _, c, rfl, upd_same, by omega, fun out l2 hs hm hn hl2 => ?_⟩
    have r2 : R B X.K F1 σ (upd H1 pp (SetO X.w pp (fun z => decide (z ∈ zs)) c)) G M1 := r1.heap (Same.upd_new hpp)
    exact (k.mono s1).new r2 hl2 (q out hs fun z => by rw [hm z]; simp) (.lst upd_same RpAll.ints))
/-- a list cell that is told is frozen, other data stay -/
theorem ex_frz (h : EX B X e G M fun d M1 => Q d M1 ∨ ∃ p ds, d = .ref p ∧ M1 p = some (.lst ds) ∧ Q (.lst ds) (mdel M1 p)) : EX B X e G M Q := fun F σ H Q' r k =>
  h F σ H Q' r fun v H1 F1 d1 M1 q s1 r1 p1 => by
    rcases q with q | ⟨p, ds, e, hm, q⟩
    · exact k v H1 F1 d1 M1 q s1 r1 p1
    · subst e; cases p1
      obtain ⟨F2, s2, r2, p2⟩ := r1.freeze hm
      exact k _ H1 F2 _ _ q (s1.trans s2) r2 p2
theorem op_notInT2 (hu : X.A.units + 65 < cLine) : OpR X (compareOp .NotIn) (fun x y H Q => ∃ d ds, Dp X.K H x d ∧ Dp X.K H y (.tuple ds) ∧ SeqAt.shaped d = true ∧ SeqAt.shaped (.tuple ds) = true ∧ Q (.bl (!ds.any fun z => PyData.eqv z d)) H) := by
  intro pins st σ H x y v w Q I r1 r2 h
  obtain ⟨d, ds, h1, h2, h3, h4, q⟩ := h
  obtain ⟨_, e1⟩ := Dp.reads I d x v h1 r1
  obtain ⟨_, e2⟩ := Dp.reads I (.tuple ds) y w h2 r2
  exact SeqAt.notIn_tuple_reads e2 e1 (SeqAt.canLay_of_shaped h4) (SeqAt.canLay_of_shaped h3) (room_in_shaped h3 hu) ⟨.bl _, H, I, rfl, q⟩
theorem ox_notInTD {d : D} {ds : List D} (hu : X.A.units + 65 < cLine) (h1 : d.okEq = true) (h2 : (D.tup ds).okEq = true) (q : Q (.bl (!ds.any fun z => eqD z d)) M) : OX B X (compareOp .NotIn) d (.tup ds) G M Q := fun F σ H Q' v w r p1 p2 kk => by
  obtain ⟨a1, a2⟩ := Bool.and_eq_true_iff.mp h1
  obtain ⟨b1, b2⟩ := Bool.and_eq_true_iff.mp h2
  have p2' := p2.dp r.ex b1
  have e : (D.tup ds).py = .tuple (pys ds) := by unfold D.py; rfl
  rw [e] at p2' b2
  refine WO.of (op_notInT2 hu) ⟨_, _, p1.dp r.ex a1, p2', a2, b2, ?_⟩
  have ea : ∀ l : List D, ((pys l).any fun z => PyData.eqv z d.py) = l.any fun z => eqD z d := by
    intro l
    induction l with
    | nil => rfl
    | cons y l ih =>
      show (PyData.eqv y.py d.py || (pys l).any fun z => PyData.eqv z d.py) = (eqD y d || l.any fun z => eqD z d)
      rw [ih]; rfl
  rw [ea]
  exact kk.at r q (.bl _)
theorem ox_notInI {d d2 : D} {ds : List D} (hL : IsL M d2 ds) (hf : d.flat = true) (ha : ds.all D.flat = true) (q : Q (.bl (!inD d ds)) M) : OX B X (compareOp .NotIn) d d2 G M Q := by
  rcases hL with rfl | ⟨l, rfl, hm⟩
  · exact ox_notInL hf ha q
  · exact ox_notInC hm hf ha q
end
end FL

namespace Lw
open PySem PySem.Spec PyProof.Rows L2 FL
local macro_rules | `(tactic| wtm_at "c") => `(tactic| first
  | ((with_reducible refine' ex_listRg ?c ?l ?lm ?g ?gm ?s ?t ?q); (case c => rfl); (case l => rfl); (case lm => assumption); (case g => rfl); (case gm => assumption); (case s => rfl); (case t => rfl))
  | ((with_reducible refine' ex_callB ?c ?he ?hp ?q); (case c => first | with_reducible assumption | exact Blt.fn (by with_reducible assumption) rfl (by first | with_reducible exact bb_len | with_reducible exact bb_isinstance | with_reducible exact bb_max | with_reducible exact bb_min)); (case he => rfl); (case hp => rfl))
  | ((with_reducible refine' ex_callTy ?c ?he ?hp ?q); (case c => first | with_reducible assumption | exact Blt.fn (by with_reducible assumption) rfl (by first | with_reducible exact bb_int | with_reducible exact bb_bool | with_reducible exact bb_str | with_reducible exact bb_tuple | with_reducible exact bb_list | with_reducible exact bb_dict)); (case he => rfl); (case hp => rfl))
  | ((with_reducible refine' ex_call ?c ?hr ?hg ?hd ?he ?hp ?q); (case c => first | with_reducible assumption | exact Dfn.fn (by with_reducible assumption)); (case hr => first | assumption | exact Room.mono (by assumption) (by decide)); (case hg => rfl); (case hd => rfl); (case he => rfl); (case hp => rfl))
  | ((with_reducible refine' ex_ty ?c ?q); (case c => first | with_reducible assumption | exact Blt.fn (by with_reducible assumption) rfl (by first | with_reducible exact bb_int | with_reducible exact bb_bool | with_reducible exact bb_str | with_reducible exact bb_tuple | with_reducible exact bb_list | with_reducible exact bb_dict)))
  | ((with_reducible refine' ex_glob ?c ?q); (case c => first | with_reducible assumption | exact Gb.fn (by with_reducible assumption) rfl)))
local macro_rules | `(tactic| wtm_at "cb") => `(tactic| first
  | ((with_reducible refine' ex_callB ?c ?he ?hp ?q); (case c => first | exact Blt.blk (by with_reducible assumption) rfl | exact Blt.fnb (by with_reducible assumption) rfl (by first | with_reducible exact bb_len | with_reducible exact bb_isinstance | with_reducible exact bb_max | with_reducible exact bb_min)); (case he => rfl); (case hp => rfl))
  | ((with_reducible refine' ex_callTy ?c ?he ?hp ?q); (case c => first | exact Blt.blk (by with_reducible assumption) rfl | exact Blt.fnb (by with_reducible assumption) rfl (by first | with_reducible exact bb_int | with_reducible exact bb_bool | with_reducible exact bb_str | with_reducible exact bb_tuple | with_reducible exact bb_list | with_reducible exact bb_dict)); (case he => rfl); (case hp => rfl))
  | ((with_reducible refine' ex_call ?c ?hr ?hg ?hd ?he ?hp ?q); (case c => first | exact Dfn.blk (by with_reducible assumption) | exact Dfn.fnb (by with_reducible assumption)); (case hr => first | assumption | exact Room.mono (by assumption) (by decide)); (case hg => rfl); (case hd => rfl); (case he => rfl); (case hp => rfl))
  | ((with_reducible refine' ex_ty ?c ?q); (case c => first | exact Blt.blk (by with_reducible assumption) rfl | exact Blt.fnb (by with_reducible assumption) rfl (by first | with_reducible exact bb_int | with_reducible exact bb_bool | with_reducible exact bb_str | with_reducible exact bb_tuple | with_reducible exact bb_list | with_reducible exact bb_dict)))
  | ((with_reducible refine' ex_glob ?c ?q); (case c => first | exact Gb.blk (by with_reducible assumption) rfl | exact Gb.fnb (by with_reducible assumption) rfl)))
local macro_rules | `(tactic| wtm_at "e") => `(tactic| first
  | (with_reducible refine ex_int ?_) | (with_reducible refine ex_str ?_) | (with_reducible refine ex_bl ?_) | (with_reducible refine ex_non ?_)
  | (with_reducible refine ex_bin ?_) | (with_reducible refine asB_bl ?_)
  | ((with_reducible show (ite (_ = true) _ _)); first | refine iteT' rfl ?_ | refine iteF' rfl ?_)
  | ((with_reducible refine ex_sub ?h ?q); (case h => exact fun _ _ => rfl))
  | ((with_reducible refine tx_cmp ?h ?q); (case h => first | exact nomark _ | rfl))
  | ((with_reducible refine tx_chain ?h ?q); (case h => with_unfolding_all rfl))
  | ((with_reducible refine ex_cmp ?h ?q); (case h => first | exact nomark _ | rfl))
  | ((with_reducible refine ex_chain ?h ?q); (case h => with_unfolding_all rfl))
  | (with_reducible refine tx_not ?_) | (with_reducible refine tw_and ?_) | (with_reducible refine tw_and1 ?_) | (with_reducible refine tw_or ?_) | (with_reducible refine tw_or1 ?_)
  | ((with_reducible show TX _ _ (.BoolOp _ _ _) _ _ _); refine TW.tx ?_)
  | ((with_reducible show TX _ _ (.Call _ _ _ _) _ _ _); refine tx_val (fun _ => rfl) ?_)
  | ((with_reducible show TX _ _ (.Name _ _) _ _ _); refine tx_val (fun _ => rfl) ?_)
  | (with_reducible refine ex_one ?_) | (with_reducible refine ex_and ?_) | (with_reducible refine ex_or ?_) | (with_reducible refine ex_not ?_)
  | (with_reducible refine ex_if ?_)
  | ((with_reducible refine ax_cons ?h ?q); (case h => rfl))
  | (with_reducible refine ax_nil ?_)
  | (with_reducible refine ox_add ?_) | (with_reducible refine ox_sub ?_)
  | (with_reducible refine ox_lt ?_) | (with_reducible refine ox_le ?_) | (with_reducible refine ox_gt ?_) | (with_reducible refine ox_ge ?_)
  | (with_reducible refine ox_eqI ?_) | (with_reducible refine ox_neI ?_) | (with_reducible refine ox_eqS ?_) | (with_reducible refine ox_neS ?_) | (with_reducible refine ox_eqB ?_) | (with_reducible refine ox_neB ?_)
  | (with_reducible refine ox_is ?_) | (with_reducible refine ox_isnot ?_)
  | (with_reducible refine bx_lenF ?_) | (with_reducible refine bx_lenL ?_) | (with_reducible refine bx_lenT ?_)
  | ((with_reducible refine bx_isiI ?h ?q); (case h => first | rfl | assumption))
  | ((with_reducible refine bx_isiB ?h ?q); (case h => first | rfl | assumption))
  | ((with_reducible refine bx_isiSt ?h ?q); (case h => first | rfl | assumption))
  | ((with_reducible refine bx_isiTu ?h ?q); (case h => first | rfl | assumption))
  | ((with_reducible refine bx_isiLi ?h ?q); (case h => first | rfl | assumption))
  | ((with_reducible refine bx_isiTL ?h ?q); (case h => first | rfl | assumption))
  | ((with_reducible refine ex_tup ?q)) | (with_reducible refine ex_cmp0 ?_)
  | (with_reducible refine sx_ret ?_) | (with_reducible refine sx_retN ?_)
  | ((with_reducible refine sx_expr ?h ?q); (case h => rfl))
  | ((with_reducible refine ex_fld ?h ?q); (case h => rfl))
  | ((with_reducible refine sx_fldK ?h ?q); (case h => rfl))
  | ((with_reducible refine gxs_cons ?h ?q); (case h => rfl)) | (with_reducible refine gxs_nil ?_)
  | ((with_reducible refine' gx_tup ?c ?l ?h ?g ?q); (case c => rfl); (case l => rfl); (case h => rfl); (case g => rfl))
  | (with_reducible refine sxs_one ?_) | (with_reducible refine sxs_cons ?_) | (with_reducible refine sxs_nil ?_)
  | ((with_reducible refine sx_asg ?h ?g ?i ?q); (case h => rfl); (case g => rfl); (case i => rfl)))
local macro_rules | `(tactic| wtm_at "b") => `(tactic| first | (refine sxs_one ?_) | (refine sxs_cons ?_))
local macro_rules | `(tactic| wtm_at "e2") => `(tactic| first
  | (with_reducible refine px_cons ?_) | (with_reducible refine px_nil ?_) | (with_reducible refine ex_binL ?_) | (with_reducible refine ex_binR ?_) | (with_reducible refine ex_slice ?_) | (with_reducible refine ex_sliceSt ?_) | (with_reducible refine pox_none ?_) | (with_reducible refine pox_some ?_) | (with_reducible refine slx_t ?_)
  | ((with_reducible refine ex_subL ?h ?q); (case h => exact fun _ _ => rfl))
  | ((with_reducible show (List.length _ ≤ sizeLine ∧ _)); refine And.intro (Nat.le_of_ble_eq_true rfl) ?_)
  | ((with_reducible show (ite ((!decide (_ = _)) = true) _ _)); (with_reducible refine ite_ndec (fun h => absurd rfl h) (fun _ => ?_)))
  | ((with_reducible show (ite (decide (_ = _) = true) _ _)); (with_reducible refine ite_dec (fun _ => ?_) (fun h => absurd rfl h)))
  | ((with_reducible show (IX _ _ (.tup _) (.int _) _ _ _)); refine ix_t rfl ?_)
  | ((with_reducible show (IX _ _ (.lst _) (.int _) _ _ _)); refine ix_l rfl ?_)
  | ((with_reducible show (IX _ _ (.ref _) (.int _) _ _ _)); refine ix_c (by first | with_reducible assumption | exact mupd_same) rfl ?_)
  | (refine ⟨_, (rfl : D.int _ = D.int _), (?_ : SLX _ _ _ _ _ _ _ _)⟩) | (refine ⟨_, (rfl : D.int _ = D.int _), (?_ : POX _ _ _ _ _ _)⟩)
  | (refine ⟨_, _, _, _, (rfl : D.ref _ = D.ref _), (by wtm_at "me"), Ki.cls (by assumption), Ki.no (by assumption) _ (by decide +kernel), (by wtm_at "lk"), ?_⟩)
  | (refine ⟨_, _, _, _, _, (rfl : D.ref _ = D.ref _), (by wtm_at "me"), (by assumption : Ki _ _ _), (by decide +kernel), (Nat.le_of_ble_eq_true rfl), (by wtm_at "put"), ?_⟩)
  | (refine ⟨_, _, _, _, _, (rfl : D.ref _ = D.ref _), (by wtm_at "me"), (by assumption : Mth _ _ _ _ _ _ _ _ _), (by first | assumption | exact Room.mono (by assumption) (by decide)), (by wtm_at "ln"), ?_⟩))
local macro_rules | `(tactic| wtm_at "lk") => `(tactic| repeat (first | exact lk_hit | apply lk_skip (by decide +kernel)))
local macro_rules | `(tactic| wtm_at "ln") => `(tactic| repeat (first | exact lk_nil | apply lk_none (by decide +kernel)))
local macro_rules | `(tactic| wtm_at "put") => `(tactic| repeat (first | exact put_hit | exact put_nil | apply put_skip (by decide +kernel)))
local macro_rules | `(tactic| wtm_at "me") => `(tactic| first | with_reducible assumption | exact mupd_same | (rw [mupd_ne (by assumption)]; with_reducible assumption))
local macro_rules | `(tactic| wtm_at "m") => `(tactic| first
  | ((with_reducible refine' ex_methV ?hs ?hp ?ht ?q); (case hs => rfl); (case hp => rfl); (case ht => rfl))
  | ((with_reducible refine' ex_methV0 ?ht ?q); (case ht => rfl)))
local macro_rules | `(tactic| wtm_at "mk") => `(tactic| (with_reducible refine' ex_make ?c ?hr ?hg ?hd ?he ?hp ?q); (case c => assumption); (case hr => first | assumption | exact Room.mono (by assumption) (by decide)); (case hg => rfl); (case hd => rfl); (case he => rfl); (case hp => rfl))
local macro_rules | `(tactic| wtm_at "ei") => `(tactic| with_reducible refine sx_if ?_)
local macro_rules | `(tactic| wtm_at "ss") => `(tactic| (with_reducible refine' ex_sortedSet ?h1 ?h2 ?h3 ?h4 ?h5 ?h6 ?h7 ?q); (case h1 => rfl); (case h2 => exact Blt.fn (by with_reducible assumption) rfl bb_sorted); (case h3 => exact Blt.fn (by with_reducible assumption) rfl bb_set); (case h4 => rfl); (case h5 => rfl); (case h6 => rfl); (case h7 => rfl))

/-! the text by places -/
def top (i : Nat) : Stmt := PySem.Challenge.pw_faruplink_k13_whole_told_losses_keep_it.main.body.getD i (.Pass ⟨0, 0, 0, 0⟩)
abbrev s_is_number : Stmt := top 18
abbrev n_is_number : List Str := ["part", "low", "high"]
theorem sc_is_number : FnScope n_is_number ["part", "low", "high"] (defScope s_is_number) := ⟨rfl, rfl, rfl, by decide +kernel, rfl, by decide +kernel, by decide +kernel⟩
theorem a_is_number_0 : atB n_is_number (defScope s_is_number) 0 "part" = true := by decide +kernel
theorem a_is_number_1 : atB n_is_number (defScope s_is_number) 1 "low" = true := by decide +kernel
theorem a_is_number_2 : atB n_is_number (defScope s_is_number) 2 "high" = true := by decide +kernel
local macro_rules | `(tactic| wtm_at "v is_number") => `(tactic| first
  | ((with_reducible refine' ex_var (i := 0) (x := "part") ?h ?g ?q); (case h => exact At.of rfl rfl a_is_number_0); (case g => rfl))
  | ((with_reducible refine' ex_var (i := 1) (x := "low") ?h ?g ?q); (case h => exact At.of rfl rfl a_is_number_1); (case g => rfl))
  | ((with_reducible refine' ex_var (i := 2) (x := "high") ?h ?g ?q); (case h => exact At.of rfl rfl a_is_number_2); (case g => rfl))
  | ((with_reducible refine sx_set (i := 0) (x := "part") ?h ?s ?q); (case h => exact Lc.of sc_is_number.nd rfl rfl (.inl rfl) a_is_number_0); (case s => rfl))
  | ((with_reducible refine gx_name (i := 0) (x := "part") ?h ?q); (case h => exact Lc.of sc_is_number.nd rfl rfl (.inl rfl) a_is_number_0))
  | ((with_reducible refine sx_set (i := 1) (x := "low") ?h ?s ?q); (case h => exact Lc.of sc_is_number.nd rfl rfl (.inl rfl) a_is_number_1); (case s => rfl))
  | ((with_reducible refine gx_name (i := 1) (x := "low") ?h ?q); (case h => exact Lc.of sc_is_number.nd rfl rfl (.inl rfl) a_is_number_1))
  | ((with_reducible refine sx_set (i := 2) (x := "high") ?h ?s ?q); (case h => exact Lc.of sc_is_number.nd rfl rfl (.inl rfl) a_is_number_2); (case s => rfl))
  | ((with_reducible refine gx_name (i := 2) (x := "high") ?h ?q); (case h => exact Lc.of sc_is_number.nd rfl rfl (.inl rfl) a_is_number_2)))
local macro_rules | `(tactic| wtm_at "vb is_number") => `(tactic| first
  | ((with_reducible refine' ex_var (i := 0) (x := "part") ?h ?g ?q); (case h => exact At.b rfl (by first | exact Or.inl rfl | exact Or.inr (Or.inl rfl) | exact Or.inr (Or.inr rfl))); (case g => rfl))
  | ((with_reducible refine' ex_var (i := 1) (x := "low") ?h ?g ?q); (case h => exact At.b rfl (by first | exact Or.inl rfl | exact Or.inr (Or.inl rfl) | exact Or.inr (Or.inr rfl))); (case g => rfl))
  | ((with_reducible refine' ex_var (i := 2) (x := "high") ?h ?g ?q); (case h => exact At.b rfl (by first | exact Or.inl rfl | exact Or.inr (Or.inl rfl) | exact Or.inr (Or.inr rfl))); (case g => rfl)))
local macro_rules | `(tactic| wtm_at "w is_number") => `(tactic| repeat (first | wtm_at "v is_number" | wtm_at "e" | wtm_at "ei" | wtm_at "c"))
local macro_rules | `(tactic| wtm_at "wb is_number") => `(tactic| repeat (first | wtm_at "vb is_number" | wtm_at "e" | wtm_at "cb"))
local macro_rules | `(tactic| wtm_at "g is_number") => `(tactic| repeat (first | wtm_at "v is_number" | wtm_at "e2" | wtm_at "e" | wtm_at "ei" | wtm_at "c"))
local macro_rules | `(tactic| wtm_at "gb is_number") => `(tactic| repeat (first | wtm_at "vb is_number" | wtm_at "e2" | wtm_at "e" | wtm_at "cb"))
local macro_rules | `(tactic| wtm_at "h is_number") => `(tactic| repeat (first | wtm_at "v is_number" | wtm_at "e2" | wtm_at "e" | wtm_at "c"))
abbrev X_is_number (P : Program) (w : World) (K : PySem.W.Frag) (mg : Str → Option Value) (base : Heap) (f : Addr) (cdv : Value) (A : Around) (outer : List Env) (s : Shared) (H : Hp) (E : XK) : Cx := (cxOf CX0 P w K mg base n_is_number "is_number" (defScope s_is_number) f cdv A outer s H E).nox
abbrev s_is_command : Stmt := top 19
abbrev n_is_command : List Str := ["part", "number", "wants", "one", "k"]
theorem sc_is_command : FnScope n_is_command ["part", "number"] (defScope s_is_command) := ⟨rfl, rfl, rfl, by decide +kernel, rfl, by decide +kernel, by decide +kernel⟩
theorem a_is_command_0 : atB n_is_command (defScope s_is_command) 0 "part" = true := by decide +kernel
theorem a_is_command_1 : atB n_is_command (defScope s_is_command) 1 "number" = true := by decide +kernel
theorem a_is_command_2 : atB n_is_command (defScope s_is_command) 2 "wants" = true := by decide +kernel
local macro_rules | `(tactic| wtm_at "v is_command") => `(tactic| first
  | ((with_reducible refine' ex_var (i := 0) (x := "part") ?h ?g ?q); (case h => exact At.of rfl rfl a_is_command_0); (case g => rfl))
  | ((with_reducible refine' ex_var (i := 1) (x := "number") ?h ?g ?q); (case h => exact At.of rfl rfl a_is_command_1); (case g => rfl))
  | ((with_reducible refine' ex_var (i := 2) (x := "wants") ?h ?g ?q); (case h => exact At.of rfl rfl a_is_command_2); (case g => rfl))
  | ((with_reducible refine sx_set (i := 0) (x := "part") ?h ?s ?q); (case h => exact Lc.of sc_is_command.nd rfl rfl (.inl rfl) a_is_command_0); (case s => rfl))
  | ((with_reducible refine gx_name (i := 0) (x := "part") ?h ?q); (case h => exact Lc.of sc_is_command.nd rfl rfl (.inl rfl) a_is_command_0))
  | ((with_reducible refine sx_set (i := 1) (x := "number") ?h ?s ?q); (case h => exact Lc.of sc_is_command.nd rfl rfl (.inl rfl) a_is_command_1); (case s => rfl))
  | ((with_reducible refine gx_name (i := 1) (x := "number") ?h ?q); (case h => exact Lc.of sc_is_command.nd rfl rfl (.inl rfl) a_is_command_1))
  | ((with_reducible refine sx_set (i := 2) (x := "wants") ?h ?s ?q); (case h => exact Lc.of sc_is_command.nd rfl rfl (.inl rfl) a_is_command_2); (case s => rfl))
  | ((with_reducible refine gx_name (i := 2) (x := "wants") ?h ?q); (case h => exact Lc.of sc_is_command.nd rfl rfl (.inl rfl) a_is_command_2)))
local macro_rules | `(tactic| wtm_at "vb is_command") => `(tactic| first
  | ((with_reducible refine' ex_var (i := 0) (x := "part") ?h ?g ?q); (case h => exact At.b rfl (by first | exact Or.inl rfl | exact Or.inr (Or.inl rfl) | exact Or.inr (Or.inr rfl))); (case g => rfl))
  | ((with_reducible refine' ex_var (i := 1) (x := "number") ?h ?g ?q); (case h => exact At.b rfl (by first | exact Or.inl rfl | exact Or.inr (Or.inl rfl) | exact Or.inr (Or.inr rfl))); (case g => rfl))
  | ((with_reducible refine' ex_var (i := 2) (x := "wants") ?h ?g ?q); (case h => exact At.b rfl (by first | exact Or.inl rfl | exact Or.inr (Or.inl rfl) | exact Or.inr (Or.inr rfl))); (case g => rfl))
  | ((with_reducible refine' ex_var (i := 3) (x := "one") ?h ?g ?q); (case h => exact At.b rfl (by first | exact Or.inl rfl | exact Or.inr (Or.inl rfl) | exact Or.inr (Or.inr rfl))); (case g => rfl))
  | ((with_reducible refine' ex_var (i := 4) (x := "k") ?h ?g ?q); (case h => exact At.b rfl (by first | exact Or.inl rfl | exact Or.inr (Or.inl rfl) | exact Or.inr (Or.inr rfl))); (case g => rfl)))
local macro_rules | `(tactic| wtm_at "w is_command") => `(tactic| repeat (first | wtm_at "v is_command" | wtm_at "e" | wtm_at "ei" | wtm_at "c"))
local macro_rules | `(tactic| wtm_at "wb is_command") => `(tactic| repeat (first | wtm_at "vb is_command" | wtm_at "e" | wtm_at "cb"))
local macro_rules | `(tactic| wtm_at "g is_command") => `(tactic| repeat (first | wtm_at "v is_command" | wtm_at "e2" | wtm_at "e" | wtm_at "ei" | wtm_at "c"))
local macro_rules | `(tactic| wtm_at "gb is_command") => `(tactic| repeat (first | wtm_at "vb is_command" | wtm_at "e2" | wtm_at "e" | wtm_at "cb"))
local macro_rules | `(tactic| wtm_at "h is_command") => `(tactic| repeat (first | wtm_at "v is_command" | wtm_at "e2" | wtm_at "e" | wtm_at "c"))
local macro_rules | `(tactic| wtm_at "lc is_command 0") => `(tactic| refine' ex_lc (own := [("one", 3)]) (t := .inl 3)  rfl sc_is_command.nd (blkOk_by (N := n_is_command) (sc := defScope s_is_command) (by decide +kernel)) (by decide) (fun _ _ _ _ _ => pg_name (i := 3) sc_is_command.nd rfl (Or.inl rfl)) (fun _ => rfl) ?_)
local macro_rules | `(tactic| wtm_at "lcM is_command 0") => `(tactic| refine' ex_lcM (own := [("one", 3)]) (t := .inl 3)  rfl sc_is_command.nd (blkOk_by (N := n_is_command) (sc := defScope s_is_command) (by decide +kernel)) (by decide) (fun _ _ _ _ _ => pg_name (i := 3) sc_is_command.nd rfl (Or.inl rfl)) (fun _ => rfl) ?_)
local macro_rules | `(tactic| wtm_at "lcp is_command 0") => `(tactic| refine' ex_lcp (own := [("one", 3)]) (t := .inl 3) ?f rfl sc_is_command.nd (blkOk_by (N := n_is_command) (sc := defScope s_is_command) (by decide +kernel)) (by decide) (fun _ _ _ _ _ => pg_name (i := 3) sc_is_command.nd rfl (Or.inl rfl)) (fun _ => rfl) ?_)
local macro_rules | `(tactic| wtm_at "lcpM is_command 0") => `(tactic| refine' ex_lcpM (own := [("one", 3)]) (t := .inl 3) ?f rfl sc_is_command.nd (blkOk_by (N := n_is_command) (sc := defScope s_is_command) (by decide +kernel)) (by decide) (fun _ _ _ _ _ => pg_name (i := 3) sc_is_command.nd rfl (Or.inl rfl)) (fun _ => rfl) ?_)
local macro_rules | `(tactic| wtm_at "lc is_command 1") => `(tactic| refine' ex_lc (own := [("k", 4)]) (t := .inl 4)  rfl sc_is_command.nd (blkOk_by (N := n_is_command) (sc := defScope s_is_command) (by decide +kernel)) (by decide) (fun _ _ _ _ _ => pg_name (i := 4) sc_is_command.nd rfl (Or.inl rfl)) (fun _ => rfl) ?_)
local macro_rules | `(tactic| wtm_at "lcM is_command 1") => `(tactic| refine' ex_lcM (own := [("k", 4)]) (t := .inl 4)  rfl sc_is_command.nd (blkOk_by (N := n_is_command) (sc := defScope s_is_command) (by decide +kernel)) (by decide) (fun _ _ _ _ _ => pg_name (i := 4) sc_is_command.nd rfl (Or.inl rfl)) (fun _ => rfl) ?_)
local macro_rules | `(tactic| wtm_at "lcp is_command 1") => `(tactic| refine' ex_lcp (own := [("k", 4)]) (t := .inl 4) ?f rfl sc_is_command.nd (blkOk_by (N := n_is_command) (sc := defScope s_is_command) (by decide +kernel)) (by decide) (fun _ _ _ _ _ => pg_name (i := 4) sc_is_command.nd rfl (Or.inl rfl)) (fun _ => rfl) ?_)
local macro_rules | `(tactic| wtm_at "lcpM is_command 1") => `(tactic| refine' ex_lcpM (own := [("k", 4)]) (t := .inl 4) ?f rfl sc_is_command.nd (blkOk_by (N := n_is_command) (sc := defScope s_is_command) (by decide +kernel)) (by decide) (fun _ _ _ _ _ => pg_name (i := 4) sc_is_command.nd rfl (Or.inl rfl)) (fun _ => rfl) ?_)
abbrev X_is_command (P : Program) (w : World) (K : PySem.W.Frag) (mg : Str → Option Value) (base : Heap) (f : Addr) (cdv : Value) (A : Around) (outer : List Env) (s : Shared) (H : Hp) (E : XK) : Cx := (cxOf CX0 P w K mg base n_is_command "is_command" (defScope s_is_command) f cdv A outer s H E).nox
abbrev s_need_book : Stmt := top 20
abbrev n_need_book : List Str := ["book", "number", "command"]
theorem sc_need_book : FnScope n_need_book ["book"] (defScope s_need_book) := ⟨rfl, rfl, rfl, by decide +kernel, rfl, by decide +kernel, by decide +kernel⟩
theorem a_need_book_0 : atB n_need_book (defScope s_need_book) 0 "book" = true := by decide +kernel
theorem a_need_book_1 : atB n_need_book (defScope s_need_book) 1 "number" = true := by decide +kernel
theorem a_need_book_2 : atB n_need_book (defScope s_need_book) 2 "command" = true := by decide +kernel
local macro_rules | `(tactic| wtm_at "v need_book") => `(tactic| first
  | ((with_reducible refine' ex_var (i := 0) (x := "book") ?h ?g ?q); (case h => exact At.of rfl rfl a_need_book_0); (case g => rfl))
  | ((with_reducible refine' ex_var (i := 1) (x := "number") ?h ?g ?q); (case h => exact At.of rfl rfl a_need_book_1); (case g => rfl))
  | ((with_reducible refine' ex_var (i := 2) (x := "command") ?h ?g ?q); (case h => exact At.of rfl rfl a_need_book_2); (case g => rfl))
  | ((with_reducible refine sx_set (i := 0) (x := "book") ?h ?s ?q); (case h => exact Lc.of sc_need_book.nd rfl rfl (.inl rfl) a_need_book_0); (case s => rfl))
  | ((with_reducible refine gx_name (i := 0) (x := "book") ?h ?q); (case h => exact Lc.of sc_need_book.nd rfl rfl (.inl rfl) a_need_book_0))
  | ((with_reducible refine sx_set (i := 1) (x := "number") ?h ?s ?q); (case h => exact Lc.of sc_need_book.nd rfl rfl (.inl rfl) a_need_book_1); (case s => rfl))
  | ((with_reducible refine gx_name (i := 1) (x := "number") ?h ?q); (case h => exact Lc.of sc_need_book.nd rfl rfl (.inl rfl) a_need_book_1))
  | ((with_reducible refine sx_set (i := 2) (x := "command") ?h ?s ?q); (case h => exact Lc.of sc_need_book.nd rfl rfl (.inl rfl) a_need_book_2); (case s => rfl))
  | ((with_reducible refine gx_name (i := 2) (x := "command") ?h ?q); (case h => exact Lc.of sc_need_book.nd rfl rfl (.inl rfl) a_need_book_2)))
local macro_rules | `(tactic| wtm_at "vb need_book") => `(tactic| first
  | ((with_reducible refine' ex_var (i := 0) (x := "book") ?h ?g ?q); (case h => exact At.b rfl (by first | exact Or.inl rfl | exact Or.inr (Or.inl rfl) | exact Or.inr (Or.inr rfl))); (case g => rfl))
  | ((with_reducible refine' ex_var (i := 1) (x := "number") ?h ?g ?q); (case h => exact At.b rfl (by first | exact Or.inl rfl | exact Or.inr (Or.inl rfl) | exact Or.inr (Or.inr rfl))); (case g => rfl))
  | ((with_reducible refine' ex_var (i := 2) (x := "command") ?h ?g ?q); (case h => exact At.b rfl (by first | exact Or.inl rfl | exact Or.inr (Or.inl rfl) | exact Or.inr (Or.inr rfl))); (case g => rfl)))
local macro_rules | `(tactic| wtm_at "w need_book") => `(tactic| repeat (first | wtm_at "v need_book" | wtm_at "e" | wtm_at "ei" | wtm_at "c"))
local macro_rules | `(tactic| wtm_at "wb need_book") => `(tactic| repeat (first | wtm_at "vb need_book" | wtm_at "e" | wtm_at "cb"))
local macro_rules | `(tactic| wtm_at "g need_book") => `(tactic| repeat (first | wtm_at "v need_book" | wtm_at "e2" | wtm_at "e" | wtm_at "ei" | wtm_at "c"))
local macro_rules | `(tactic| wtm_at "gb need_book") => `(tactic| repeat (first | wtm_at "vb need_book" | wtm_at "e2" | wtm_at "e" | wtm_at "cb"))
local macro_rules | `(tactic| wtm_at "h need_book") => `(tactic| repeat (first | wtm_at "v need_book" | wtm_at "e2" | wtm_at "e" | wtm_at "c"))
abbrev X_need_book (P : Program) (w : World) (K : PySem.W.Frag) (mg : Str → Option Value) (base : Heap) (f : Addr) (cdv : Value) (A : Around) (outer : List Env) (s : Shared) (H : Hp) (E : XK) : Cx := (cxOf CX0 P w K mg base n_need_book "need_book" (defScope s_need_book) f cdv A outer s H E).nox
abbrev s_need_delay : Stmt := top 21
abbrev n_need_delay : List Str := ["delay"]
theorem sc_need_delay : FnScope n_need_delay ["delay"] (defScope s_need_delay) := ⟨rfl, rfl, rfl, by decide +kernel, rfl, by decide +kernel, by decide +kernel⟩
theorem a_need_delay_0 : atB n_need_delay (defScope s_need_delay) 0 "delay" = true := by decide +kernel
local macro_rules | `(tactic| wtm_at "v need_delay") => `(tactic| first
  | ((with_reducible refine' ex_var (i := 0) (x := "delay") ?h ?g ?q); (case h => exact At.of rfl rfl a_need_delay_0); (case g => rfl))
  | ((with_reducible refine sx_set (i := 0) (x := "delay") ?h ?s ?q); (case h => exact Lc.of sc_need_delay.nd rfl rfl (.inl rfl) a_need_delay_0); (case s => rfl))
  | ((with_reducible refine gx_name (i := 0) (x := "delay") ?h ?q); (case h => exact Lc.of sc_need_delay.nd rfl rfl (.inl rfl) a_need_delay_0)))
local macro_rules | `(tactic| wtm_at "vb need_delay") => `(tactic| first
  | ((with_reducible refine' ex_var (i := 0) (x := "delay") ?h ?g ?q); (case h => exact At.b rfl (by first | exact Or.inl rfl | exact Or.inr (Or.inl rfl) | exact Or.inr (Or.inr rfl))); (case g => rfl)))
local macro_rules | `(tactic| wtm_at "w need_delay") => `(tactic| repeat (first | wtm_at "v need_delay" | wtm_at "e" | wtm_at "ei" | wtm_at "c"))
local macro_rules | `(tactic| wtm_at "wb need_delay") => `(tactic| repeat (first | wtm_at "vb need_delay" | wtm_at "e" | wtm_at "cb"))
local macro_rules | `(tactic| wtm_at "g need_delay") => `(tactic| repeat (first | wtm_at "v need_delay" | wtm_at "e2" | wtm_at "e" | wtm_at "ei" | wtm_at "c"))
local macro_rules | `(tactic| wtm_at "gb need_delay") => `(tactic| repeat (first | wtm_at "vb need_delay" | wtm_at "e2" | wtm_at "e" | wtm_at "cb"))
local macro_rules | `(tactic| wtm_at "h need_delay") => `(tactic| repeat (first | wtm_at "v need_delay" | wtm_at "e2" | wtm_at "e" | wtm_at "c"))
abbrev X_need_delay (P : Program) (w : World) (K : PySem.W.Frag) (mg : Str → Option Value) (base : Heap) (f : Addr) (cdv : Value) (A : Around) (outer : List Env) (s : Shared) (H : Hp) (E : XK) : Cx := (cxOf CX0 P w K mg base n_need_delay "need_delay" (defScope s_need_delay) f cdv A outer s H E).nox
abbrev s_need_letters : Stmt := top 22
abbrev n_need_letters : List Str := ["book", "letters", "at", "letter", "good"]
theorem sc_need_letters : FnScope n_need_letters ["book", "letters"] (defScope s_need_letters) := ⟨rfl, rfl, rfl, by decide +kernel, rfl, by decide +kernel, by decide +kernel⟩
theorem a_need_letters_0 : atB n_need_letters (defScope s_need_letters) 0 "book" = true := by decide +kernel
theorem a_need_letters_1 : atB n_need_letters (defScope s_need_letters) 1 "letters" = true := by decide +kernel
theorem a_need_letters_2 : atB n_need_letters (defScope s_need_letters) 2 "at" = true := by decide +kernel
theorem a_need_letters_3 : atB n_need_letters (defScope s_need_letters) 3 "letter" = true := by decide +kernel
theorem a_need_letters_4 : atB n_need_letters (defScope s_need_letters) 4 "good" = true := by decide +kernel
local macro_rules | `(tactic| wtm_at "v need_letters") => `(tactic| first
  | ((with_reducible refine' ex_var (i := 0) (x := "book") ?h ?g ?q); (case h => exact At.of rfl rfl a_need_letters_0); (case g => rfl))
  | ((with_reducible refine' ex_var (i := 1) (x := "letters") ?h ?g ?q); (case h => exact At.of rfl rfl a_need_letters_1); (case g => rfl))
  | ((with_reducible refine' ex_var (i := 2) (x := "at") ?h ?g ?q); (case h => exact At.of rfl rfl a_need_letters_2); (case g => rfl))
  | ((with_reducible refine' ex_var (i := 3) (x := "letter") ?h ?g ?q); (case h => exact At.of rfl rfl a_need_letters_3); (case g => rfl))
  | ((with_reducible refine' ex_var (i := 4) (x := "good") ?h ?g ?q); (case h => exact At.of rfl rfl a_need_letters_4); (case g => rfl))
  | ((with_reducible refine sx_set (i := 0) (x := "book") ?h ?s ?q); (case h => exact Lc.of sc_need_letters.nd rfl rfl (.inl rfl) a_need_letters_0); (case s => rfl))
  | ((with_reducible refine gx_name (i := 0) (x := "book") ?h ?q); (case h => exact Lc.of sc_need_letters.nd rfl rfl (.inl rfl) a_need_letters_0))
  | ((with_reducible refine sx_set (i := 1) (x := "letters") ?h ?s ?q); (case h => exact Lc.of sc_need_letters.nd rfl rfl (.inl rfl) a_need_letters_1); (case s => rfl))
  | ((with_reducible refine gx_name (i := 1) (x := "letters") ?h ?q); (case h => exact Lc.of sc_need_letters.nd rfl rfl (.inl rfl) a_need_letters_1))
  | ((with_reducible refine sx_set (i := 2) (x := "at") ?h ?s ?q); (case h => exact Lc.of sc_need_letters.nd rfl rfl (.inl rfl) a_need_letters_2); (case s => rfl))
  | ((with_reducible refine gx_name (i := 2) (x := "at") ?h ?q); (case h => exact Lc.of sc_need_letters.nd rfl rfl (.inl rfl) a_need_letters_2))
  | ((with_reducible refine sx_set (i := 3) (x := "letter") ?h ?s ?q); (case h => exact Lc.of sc_need_letters.nd rfl rfl (.inl rfl) a_need_letters_3); (case s => rfl))
  | ((with_reducible refine gx_name (i := 3) (x := "letter") ?h ?q); (case h => exact Lc.of sc_need_letters.nd rfl rfl (.inl rfl) a_need_letters_3))
  | ((with_reducible refine sx_set (i := 4) (x := "good") ?h ?s ?q); (case h => exact Lc.of sc_need_letters.nd rfl rfl (.inl rfl) a_need_letters_4); (case s => rfl))
  | ((with_reducible refine gx_name (i := 4) (x := "good") ?h ?q); (case h => exact Lc.of sc_need_letters.nd rfl rfl (.inl rfl) a_need_letters_4)))
local macro_rules | `(tactic| wtm_at "vb need_letters") => `(tactic| first
  | ((with_reducible refine' ex_var (i := 0) (x := "book") ?h ?g ?q); (case h => exact At.b rfl (by first | exact Or.inl rfl | exact Or.inr (Or.inl rfl) | exact Or.inr (Or.inr rfl))); (case g => rfl))
  | ((with_reducible refine' ex_var (i := 1) (x := "letters") ?h ?g ?q); (case h => exact At.b rfl (by first | exact Or.inl rfl | exact Or.inr (Or.inl rfl) | exact Or.inr (Or.inr rfl))); (case g => rfl))
  | ((with_reducible refine' ex_var (i := 2) (x := "at") ?h ?g ?q); (case h => exact At.b rfl (by first | exact Or.inl rfl | exact Or.inr (Or.inl rfl) | exact Or.inr (Or.inr rfl))); (case g => rfl))
  | ((with_reducible refine' ex_var (i := 3) (x := "letter") ?h ?g ?q); (case h => exact At.b rfl (by first | exact Or.inl rfl | exact Or.inr (Or.inl rfl) | exact Or.inr (Or.inr rfl))); (case g => rfl))
  | ((with_reducible refine' ex_var (i := 4) (x := "good") ?h ?g ?q); (case h => exact At.b rfl (by first | exact Or.inl rfl | exact Or.inr (Or.inl rfl) | exact Or.inr (Or.inr rfl))); (case g => rfl)))
local macro_rules | `(tactic| wtm_at "w need_letters") => `(tactic| repeat (first | wtm_at "v need_letters" | wtm_at "e" | wtm_at "ei" | wtm_at "c"))
local macro_rules | `(tactic| wtm_at "wb need_letters") => `(tactic| repeat (first | wtm_at "vb need_letters" | wtm_at "e" | wtm_at "cb"))
local macro_rules | `(tactic| wtm_at "g need_letters") => `(tactic| repeat (first | wtm_at "v need_letters" | wtm_at "e2" | wtm_at "e" | wtm_at "ei" | wtm_at "c"))
local macro_rules | `(tactic| wtm_at "gb need_letters") => `(tactic| repeat (first | wtm_at "vb need_letters" | wtm_at "e2" | wtm_at "e" | wtm_at "cb"))
local macro_rules | `(tactic| wtm_at "h need_letters") => `(tactic| repeat (first | wtm_at "v need_letters" | wtm_at "e2" | wtm_at "e" | wtm_at "c"))
abbrev X_need_letters (P : Program) (w : World) (K : PySem.W.Frag) (mg : Str → Option Value) (base : Heap) (f : Addr) (cdv : Value) (A : Around) (outer : List Env) (s : Shared) (H : Hp) (E : XK) : Cx := (cxOf CX0 P w K mg base n_need_letters "need_letters" (defScope s_need_letters) f cdv A outer s H E).nox
abbrev s_done_at : Stmt := top 25
abbrev n_done_at : List Str := ["book", "comes", "found", "number", "command", "when", "until", "wants", "some", "beat", "one"]
theorem sc_done_at : FnScope n_done_at ["book", "comes"] (defScope s_done_at) := ⟨rfl, rfl, rfl, by decide +kernel, rfl, by decide +kernel, by decide +kernel⟩
theorem a_done_at_0 : atB n_done_at (defScope s_done_at) 0 "book" = true := by decide +kernel
theorem a_done_at_1 : atB n_done_at (defScope s_done_at) 1 "comes" = true := by decide +kernel
theorem a_done_at_2 : atB n_done_at (defScope s_done_at) 2 "found" = true := by decide +kernel
theorem a_done_at_3 : atB n_done_at (defScope s_done_at) 3 "number" = true := by decide +kernel
theorem a_done_at_4 : atB n_done_at (defScope s_done_at) 4 "command" = true := by decide +kernel
theorem a_done_at_5 : atB n_done_at (defScope s_done_at) 5 "when" = true := by decide +kernel
theorem a_done_at_6 : atB n_done_at (defScope s_done_at) 6 "until" = true := by decide +kernel
theorem a_done_at_7 : atB n_done_at (defScope s_done_at) 7 "wants" = true := by decide +kernel
theorem a_done_at_8 : atB n_done_at (defScope s_done_at) 8 "some" = true := by decide +kernel
theorem a_done_at_9 : atB n_done_at (defScope s_done_at) 9 "beat" = true := by decide +kernel
local macro_rules | `(tactic| wtm_at "v done_at") => `(tactic| first
  | ((with_reducible refine' ex_var (i := 0) (x := "book") ?h ?g ?q); (case h => exact At.of rfl rfl a_done_at_0); (case g => rfl))
  | ((with_reducible refine' ex_var (i := 1) (x := "comes") ?h ?g ?q); (case h => exact At.of rfl rfl a_done_at_1); (case g => rfl))
  | ((with_reducible refine' ex_var (i := 2) (x := "found") ?h ?g ?q); (case h => exact At.of rfl rfl a_done_at_2); (case g => rfl))
  | ((with_reducible refine' ex_var (i := 3) (x := "number") ?h ?g ?q); (case h => exact At.of rfl rfl a_done_at_3); (case g => rfl))
  | ((with_reducible refine' ex_var (i := 4) (x := "command") ?h ?g ?q); (case h => exact At.of rfl rfl a_done_at_4); (case g => rfl))
  | ((with_reducible refine' ex_var (i := 5) (x := "when") ?h ?g ?q); (case h => exact At.of rfl rfl a_done_at_5); (case g => rfl))
  | ((with_reducible refine' ex_var (i := 6) (x := "until") ?h ?g ?q); (case h => exact At.of rfl rfl a_done_at_6); (case g => rfl))
  | ((with_reducible refine' ex_var (i := 7) (x := "wants") ?h ?g ?q); (case h => exact At.of rfl rfl a_done_at_7); (case g => rfl))
  | ((with_reducible refine' ex_var (i := 8) (x := "some") ?h ?g ?q); (case h => exact At.of rfl rfl a_done_at_8); (case g => rfl))
  | ((with_reducible refine' ex_var (i := 9) (x := "beat") ?h ?g ?q); (case h => exact At.of rfl rfl a_done_at_9); (case g => rfl))
  | ((with_reducible refine sx_set (i := 0) (x := "book") ?h ?s ?q); (case h => exact Lc.of sc_done_at.nd rfl rfl (.inl rfl) a_done_at_0); (case s => rfl))
  | ((with_reducible refine gx_name (i := 0) (x := "book") ?h ?q); (case h => exact Lc.of sc_done_at.nd rfl rfl (.inl rfl) a_done_at_0))
  | ((with_reducible refine sx_set (i := 1) (x := "comes") ?h ?s ?q); (case h => exact Lc.of sc_done_at.nd rfl rfl (.inl rfl) a_done_at_1); (case s => rfl))
  | ((with_reducible refine gx_name (i := 1) (x := "comes") ?h ?q); (case h => exact Lc.of sc_done_at.nd rfl rfl (.inl rfl) a_done_at_1))
  | ((with_reducible refine sx_set (i := 2) (x := "found") ?h ?s ?q); (case h => exact Lc.of sc_done_at.nd rfl rfl (.inl rfl) a_done_at_2); (case s => rfl))
  | ((with_reducible refine gx_name (i := 2) (x := "found") ?h ?q); (case h => exact Lc.of sc_done_at.nd rfl rfl (.inl rfl) a_done_at_2))
  | ((with_reducible refine sx_set (i := 3) (x := "number") ?h ?s ?q); (case h => exact Lc.of sc_done_at.nd rfl rfl (.inl rfl) a_done_at_3); (case s => rfl))
  | ((with_reducible refine gx_name (i := 3) (x := "number") ?h ?q); (case h => exact Lc.of sc_done_at.nd rfl rfl (.inl rfl) a_done_at_3))
  | ((with_reducible refine sx_set (i := 4) (x := "command") ?h ?s ?q); (case h => exact Lc.of sc_done_at.nd rfl rfl (.inl rfl) a_done_at_4); (case s => rfl))
  | ((with_reducible refine gx_name (i := 4) (x := "command") ?h ?q); (case h => exact Lc.of sc_done_at.nd rfl rfl (.inl rfl) a_done_at_4))
  | ((with_reducible refine sx_set (i := 5) (x := "when") ?h ?s ?q); (case h => exact Lc.of sc_done_at.nd rfl rfl (.inl rfl) a_done_at_5); (case s => rfl))
  | ((with_reducible refine gx_name (i := 5) (x := "when") ?h ?q); (case h => exact Lc.of sc_done_at.nd rfl rfl (.inl rfl) a_done_at_5))
  | ((with_reducible refine sx_set (i := 6) (x := "until") ?h ?s ?q); (case h => exact Lc.of sc_done_at.nd rfl rfl (.inl rfl) a_done_at_6); (case s => rfl))
  | ((with_reducible refine gx_name (i := 6) (x := "until") ?h ?q); (case h => exact Lc.of sc_done_at.nd rfl rfl (.inl rfl) a_done_at_6))
  | ((with_reducible refine sx_set (i := 7) (x := "wants") ?h ?s ?q); (case h => exact Lc.of sc_done_at.nd rfl rfl (.inl rfl) a_done_at_7); (case s => rfl))
  | ((with_reducible refine gx_name (i := 7) (x := "wants") ?h ?q); (case h => exact Lc.of sc_done_at.nd rfl rfl (.inl rfl) a_done_at_7))
  | ((with_reducible refine sx_set (i := 8) (x := "some") ?h ?s ?q); (case h => exact Lc.of sc_done_at.nd rfl rfl (.inl rfl) a_done_at_8); (case s => rfl))
  | ((with_reducible refine gx_name (i := 8) (x := "some") ?h ?q); (case h => exact Lc.of sc_done_at.nd rfl rfl (.inl rfl) a_done_at_8))
  | ((with_reducible refine sx_set (i := 9) (x := "beat") ?h ?s ?q); (case h => exact Lc.of sc_done_at.nd rfl rfl (.inl rfl) a_done_at_9); (case s => rfl))
  | ((with_reducible refine gx_name (i := 9) (x := "beat") ?h ?q); (case h => exact Lc.of sc_done_at.nd rfl rfl (.inl rfl) a_done_at_9)))
local macro_rules | `(tactic| wtm_at "vb done_at") => `(tactic| first
  | ((with_reducible refine' ex_var (i := 0) (x := "book") ?h ?g ?q); (case h => exact At.b rfl (by first | exact Or.inl rfl | exact Or.inr (Or.inl rfl) | exact Or.inr (Or.inr rfl))); (case g => rfl))
  | ((with_reducible refine' ex_var (i := 1) (x := "comes") ?h ?g ?q); (case h => exact At.b rfl (by first | exact Or.inl rfl | exact Or.inr (Or.inl rfl) | exact Or.inr (Or.inr rfl))); (case g => rfl))
  | ((with_reducible refine' ex_var (i := 2) (x := "found") ?h ?g ?q); (case h => exact At.b rfl (by first | exact Or.inl rfl | exact Or.inr (Or.inl rfl) | exact Or.inr (Or.inr rfl))); (case g => rfl))
  | ((with_reducible refine' ex_var (i := 3) (x := "number") ?h ?g ?q); (case h => exact At.b rfl (by first | exact Or.inl rfl | exact Or.inr (Or.inl rfl) | exact Or.inr (Or.inr rfl))); (case g => rfl))
  | ((with_reducible refine' ex_var (i := 4) (x := "command") ?h ?g ?q); (case h => exact At.b rfl (by first | exact Or.inl rfl | exact Or.inr (Or.inl rfl) | exact Or.inr (Or.inr rfl))); (case g => rfl))
  | ((with_reducible refine' ex_var (i := 5) (x := "when") ?h ?g ?q); (case h => exact At.b rfl (by first | exact Or.inl rfl | exact Or.inr (Or.inl rfl) | exact Or.inr (Or.inr rfl))); (case g => rfl))
  | ((with_reducible refine' ex_var (i := 6) (x := "until") ?h ?g ?q); (case h => exact At.b rfl (by first | exact Or.inl rfl | exact Or.inr (Or.inl rfl) | exact Or.inr (Or.inr rfl))); (case g => rfl))
  | ((with_reducible refine' ex_var (i := 7) (x := "wants") ?h ?g ?q); (case h => exact At.b rfl (by first | exact Or.inl rfl | exact Or.inr (Or.inl rfl) | exact Or.inr (Or.inr rfl))); (case g => rfl))
  | ((with_reducible refine' ex_var (i := 8) (x := "some") ?h ?g ?q); (case h => exact At.b rfl (by first | exact Or.inl rfl | exact Or.inr (Or.inl rfl) | exact Or.inr (Or.inr rfl))); (case g => rfl))
  | ((with_reducible refine' ex_var (i := 9) (x := "beat") ?h ?g ?q); (case h => exact At.b rfl (by first | exact Or.inl rfl | exact Or.inr (Or.inl rfl) | exact Or.inr (Or.inr rfl))); (case g => rfl))
  | ((with_reducible refine' ex_var (i := 10) (x := "one") ?h ?g ?q); (case h => exact At.b rfl (by first | exact Or.inl rfl | exact Or.inr (Or.inl rfl) | exact Or.inr (Or.inr rfl))); (case g => rfl)))
local macro_rules | `(tactic| wtm_at "w done_at") => `(tactic| repeat (first | wtm_at "v done_at" | wtm_at "e" | wtm_at "ei" | wtm_at "c"))
local macro_rules | `(tactic| wtm_at "wb done_at") => `(tactic| repeat (first | wtm_at "vb done_at" | wtm_at "e" | wtm_at "cb"))
local macro_rules | `(tactic| wtm_at "g done_at") => `(tactic| repeat (first | wtm_at "v done_at" | wtm_at "e2" | wtm_at "e" | wtm_at "ei" | wtm_at "c"))
local macro_rules | `(tactic| wtm_at "gb done_at") => `(tactic| repeat (first | wtm_at "vb done_at" | wtm_at "e2" | wtm_at "e" | wtm_at "cb"))
local macro_rules | `(tactic| wtm_at "h done_at") => `(tactic| repeat (first | wtm_at "v done_at" | wtm_at "e2" | wtm_at "e" | wtm_at "c"))
local macro_rules | `(tactic| wtm_at "lc done_at 0") => `(tactic| refine' ex_lc (own := [("one", 10)]) (t := .inl 10)  rfl sc_done_at.nd (blkOk_by (N := n_done_at) (sc := defScope s_done_at) (by decide +kernel)) (by decide) (fun _ _ _ _ _ => pg_name (i := 10) sc_done_at.nd rfl (Or.inl rfl)) (fun _ => rfl) ?_)
local macro_rules | `(tactic| wtm_at "lcM done_at 0") => `(tactic| refine' ex_lcM (own := [("one", 10)]) (t := .inl 10)  rfl sc_done_at.nd (blkOk_by (N := n_done_at) (sc := defScope s_done_at) (by decide +kernel)) (by decide) (fun _ _ _ _ _ => pg_name (i := 10) sc_done_at.nd rfl (Or.inl rfl)) (fun _ => rfl) ?_)
local macro_rules | `(tactic| wtm_at "lcp done_at 0") => `(tactic| refine' ex_lcp (own := [("one", 10)]) (t := .inl 10) ?f rfl sc_done_at.nd (blkOk_by (N := n_done_at) (sc := defScope s_done_at) (by decide +kernel)) (by decide) (fun _ _ _ _ _ => pg_name (i := 10) sc_done_at.nd rfl (Or.inl rfl)) (fun _ => rfl) ?_)
local macro_rules | `(tactic| wtm_at "lcpM done_at 0") => `(tactic| refine' ex_lcpM (own := [("one", 10)]) (t := .inl 10) ?f rfl sc_done_at.nd (blkOk_by (N := n_done_at) (sc := defScope s_done_at) (by decide +kernel)) (by decide) (fun _ _ _ _ _ => pg_name (i := 10) sc_done_at.nd rfl (Or.inl rfl)) (fun _ => rfl) ?_)
abbrev X_done_at (P : Program) (w : World) (K : PySem.W.Frag) (mg : Str → Option Value) (base : Heap) (f : Addr) (cdv : Value) (A : Around) (outer : List Env) (s : Shared) (H : Hp) (E : XK) : Cx := (cxOf CX0 P w K mg base n_done_at "done_at" (defScope s_done_at) f cdv A outer s H E).nox
abbrev s_need_sends : Stmt := top 28
abbrev n_need_sends : List Str := ["book", "sends", "last", "at", "pair"]
theorem sc_need_sends : FnScope n_need_sends ["book", "sends"] (defScope s_need_sends) := ⟨rfl, rfl, rfl, by decide +kernel, rfl, by decide +kernel, by decide +kernel⟩
theorem a_need_sends_0 : atB n_need_sends (defScope s_need_sends) 0 "book" = true := by decide +kernel
theorem a_need_sends_1 : atB n_need_sends (defScope s_need_sends) 1 "sends" = true := by decide +kernel
theorem a_need_sends_2 : atB n_need_sends (defScope s_need_sends) 2 "last" = true := by decide +kernel
theorem a_need_sends_3 : atB n_need_sends (defScope s_need_sends) 3 "at" = true := by decide +kernel
theorem a_need_sends_4 : atB n_need_sends (defScope s_need_sends) 4 "pair" = true := by decide +kernel
local macro_rules | `(tactic| wtm_at "v need_sends") => `(tactic| first
  | ((with_reducible refine' ex_var (i := 0) (x := "book") ?h ?g ?q); (case h => exact At.of rfl rfl a_need_sends_0); (case g => rfl))
  | ((with_reducible refine' ex_var (i := 1) (x := "sends") ?h ?g ?q); (case h => exact At.of rfl rfl a_need_sends_1); (case g => rfl))
  | ((with_reducible refine' ex_var (i := 2) (x := "last") ?h ?g ?q); (case h => exact At.of rfl rfl a_need_sends_2); (case g => rfl))
  | ((with_reducible refine' ex_var (i := 3) (x := "at") ?h ?g ?q); (case h => exact At.of rfl rfl a_need_sends_3); (case g => rfl))
  | ((with_reducible refine' ex_var (i := 4) (x := "pair") ?h ?g ?q); (case h => exact At.of rfl rfl a_need_sends_4); (case g => rfl))
  | ((with_reducible refine sx_set (i := 0) (x := "book") ?h ?s ?q); (case h => exact Lc.of sc_need_sends.nd rfl rfl (.inl rfl) a_need_sends_0); (case s => rfl))
  | ((with_reducible refine gx_name (i := 0) (x := "book") ?h ?q); (case h => exact Lc.of sc_need_sends.nd rfl rfl (.inl rfl) a_need_sends_0))
  | ((with_reducible refine sx_set (i := 1) (x := "sends") ?h ?s ?q); (case h => exact Lc.of sc_need_sends.nd rfl rfl (.inl rfl) a_need_sends_1); (case s => rfl))
  | ((with_reducible refine gx_name (i := 1) (x := "sends") ?h ?q); (case h => exact Lc.of sc_need_sends.nd rfl rfl (.inl rfl) a_need_sends_1))
  | ((with_reducible refine sx_set (i := 2) (x := "last") ?h ?s ?q); (case h => exact Lc.of sc_need_sends.nd rfl rfl (.inl rfl) a_need_sends_2); (case s => rfl))
  | ((with_reducible refine gx_name (i := 2) (x := "last") ?h ?q); (case h => exact Lc.of sc_need_sends.nd rfl rfl (.inl rfl) a_need_sends_2))
  | ((with_reducible refine sx_set (i := 3) (x := "at") ?h ?s ?q); (case h => exact Lc.of sc_need_sends.nd rfl rfl (.inl rfl) a_need_sends_3); (case s => rfl))
  | ((with_reducible refine gx_name (i := 3) (x := "at") ?h ?q); (case h => exact Lc.of sc_need_sends.nd rfl rfl (.inl rfl) a_need_sends_3))
  | ((with_reducible refine sx_set (i := 4) (x := "pair") ?h ?s ?q); (case h => exact Lc.of sc_need_sends.nd rfl rfl (.inl rfl) a_need_sends_4); (case s => rfl))
  | ((with_reducible refine gx_name (i := 4) (x := "pair") ?h ?q); (case h => exact Lc.of sc_need_sends.nd rfl rfl (.inl rfl) a_need_sends_4)))
local macro_rules | `(tactic| wtm_at "vb need_sends") => `(tactic| first
  | ((with_reducible refine' ex_var (i := 0) (x := "book") ?h ?g ?q); (case h => exact At.b rfl (by first | exact Or.inl rfl | exact Or.inr (Or.inl rfl) | exact Or.inr (Or.inr rfl))); (case g => rfl))
  | ((with_reducible refine' ex_var (i := 1) (x := "sends") ?h ?g ?q); (case h => exact At.b rfl (by first | exact Or.inl rfl | exact Or.inr (Or.inl rfl) | exact Or.inr (Or.inr rfl))); (case g => rfl))
  | ((with_reducible refine' ex_var (i := 2) (x := "last") ?h ?g ?q); (case h => exact At.b rfl (by first | exact Or.inl rfl | exact Or.inr (Or.inl rfl) | exact Or.inr (Or.inr rfl))); (case g => rfl))
  | ((with_reducible refine' ex_var (i := 3) (x := "at") ?h ?g ?q); (case h => exact At.b rfl (by first | exact Or.inl rfl | exact Or.inr (Or.inl rfl) | exact Or.inr (Or.inr rfl))); (case g => rfl))
  | ((with_reducible refine' ex_var (i := 4) (x := "pair") ?h ?g ?q); (case h => exact At.b rfl (by first | exact Or.inl rfl | exact Or.inr (Or.inl rfl) | exact Or.inr (Or.inr rfl))); (case g => rfl)))
local macro_rules | `(tactic| wtm_at "w need_sends") => `(tactic| repeat (first | wtm_at "v need_sends" | wtm_at "e" | wtm_at "ei" | wtm_at "c"))
local macro_rules | `(tactic| wtm_at "wb need_sends") => `(tactic| repeat (first | wtm_at "vb need_sends" | wtm_at "e" | wtm_at "cb"))
local macro_rules | `(tactic| wtm_at "g need_sends") => `(tactic| repeat (first | wtm_at "v need_sends" | wtm_at "e2" | wtm_at "e" | wtm_at "ei" | wtm_at "c"))
local macro_rules | `(tactic| wtm_at "gb need_sends") => `(tactic| repeat (first | wtm_at "vb need_sends" | wtm_at "e2" | wtm_at "e" | wtm_at "cb"))
local macro_rules | `(tactic| wtm_at "h need_sends") => `(tactic| repeat (first | wtm_at "v need_sends" | wtm_at "e2" | wtm_at "e" | wtm_at "c"))
abbrev X_need_sends (P : Program) (w : World) (K : PySem.W.Frag) (mg : Str → Option Value) (base : Heap) (f : Addr) (cdv : Value) (A : Around) (outer : List Env) (s : Shared) (H : Hp) (E : XK) : Cx := (cxOf CX0 P w K mg base n_need_sends "need_sends" (defScope s_need_sends) f cdv A outer s H E).nox
abbrev s_all_done : Stmt := top 29
abbrev n_all_done : List Str := ["book", "delay", "sends", "comes", "beat", "number"]
theorem sc_all_done : FnScope n_all_done ["book", "delay", "sends"] (defScope s_all_done) := ⟨rfl, rfl, rfl, by decide +kernel, rfl, by decide +kernel, by decide +kernel⟩
theorem a_all_done_0 : atB n_all_done (defScope s_all_done) 0 "book" = true := by decide +kernel
theorem a_all_done_1 : atB n_all_done (defScope s_all_done) 1 "delay" = true := by decide +kernel
theorem a_all_done_2 : atB n_all_done (defScope s_all_done) 2 "sends" = true := by decide +kernel
theorem a_all_done_3 : atB n_all_done (defScope s_all_done) 3 "comes" = true := by decide +kernel
theorem a_all_done_4 : atB n_all_done (defScope s_all_done) 4 "beat" = true := by decide +kernel
theorem a_all_done_5 : atB n_all_done (defScope s_all_done) 5 "number" = true := by decide +kernel
local macro_rules | `(tactic| wtm_at "v all_done") => `(tactic| first
  | ((with_reducible refine' ex_var (i := 0) (x := "book") ?h ?g ?q); (case h => exact At.of rfl rfl a_all_done_0); (case g => rfl))
  | ((with_reducible refine' ex_var (i := 1) (x := "delay") ?h ?g ?q); (case h => exact At.of rfl rfl a_all_done_1); (case g => rfl))
  | ((with_reducible refine' ex_var (i := 2) (x := "sends") ?h ?g ?q); (case h => exact At.of rfl rfl a_all_done_2); (case g => rfl))
  | ((with_reducible refine' ex_var (i := 3) (x := "comes") ?h ?g ?q); (case h => exact At.of rfl rfl a_all_done_3); (case g => rfl))
  | ((with_reducible refine' ex_var (i := 4) (x := "beat") ?h ?g ?q); (case h => exact At.of rfl rfl a_all_done_4); (case g => rfl))
  | ((with_reducible refine' ex_var (i := 5) (x := "number") ?h ?g ?q); (case h => exact At.of rfl rfl a_all_done_5); (case g => rfl))
  | ((with_reducible refine sx_set (i := 0) (x := "book") ?h ?s ?q); (case h => exact Lc.of sc_all_done.nd rfl rfl (.inl rfl) a_all_done_0); (case s => rfl))
  | ((with_reducible refine gx_name (i := 0) (x := "book") ?h ?q); (case h => exact Lc.of sc_all_done.nd rfl rfl (.inl rfl) a_all_done_0))
  | ((with_reducible refine sx_set (i := 1) (x := "delay") ?h ?s ?q); (case h => exact Lc.of sc_all_done.nd rfl rfl (.inl rfl) a_all_done_1); (case s => rfl))
  | ((with_reducible refine gx_name (i := 1) (x := "delay") ?h ?q); (case h => exact Lc.of sc_all_done.nd rfl rfl (.inl rfl) a_all_done_1))
  | ((with_reducible refine sx_set (i := 2) (x := "sends") ?h ?s ?q); (case h => exact Lc.of sc_all_done.nd rfl rfl (.inl rfl) a_all_done_2); (case s => rfl))
  | ((with_reducible refine gx_name (i := 2) (x := "sends") ?h ?q); (case h => exact Lc.of sc_all_done.nd rfl rfl (.inl rfl) a_all_done_2))
  | ((with_reducible refine sx_set (i := 3) (x := "comes") ?h ?s ?q); (case h => exact Lc.of sc_all_done.nd rfl rfl (.inl rfl) a_all_done_3); (case s => rfl))
  | ((with_reducible refine gx_name (i := 3) (x := "comes") ?h ?q); (case h => exact Lc.of sc_all_done.nd rfl rfl (.inl rfl) a_all_done_3))
  | ((with_reducible refine sx_set (i := 4) (x := "beat") ?h ?s ?q); (case h => exact Lc.of sc_all_done.nd rfl rfl (.inl rfl) a_all_done_4); (case s => rfl))
  | ((with_reducible refine gx_name (i := 4) (x := "beat") ?h ?q); (case h => exact Lc.of sc_all_done.nd rfl rfl (.inl rfl) a_all_done_4))
  | ((with_reducible refine sx_set (i := 5) (x := "number") ?h ?s ?q); (case h => exact Lc.of sc_all_done.nd rfl rfl (.inl rfl) a_all_done_5); (case s => rfl))
  | ((with_reducible refine gx_name (i := 5) (x := "number") ?h ?q); (case h => exact Lc.of sc_all_done.nd rfl rfl (.inl rfl) a_all_done_5)))
local macro_rules | `(tactic| wtm_at "vb all_done") => `(tactic| first
  | ((with_reducible refine' ex_var (i := 0) (x := "book") ?h ?g ?q); (case h => exact At.b rfl (by first | exact Or.inl rfl | exact Or.inr (Or.inl rfl) | exact Or.inr (Or.inr rfl))); (case g => rfl))
  | ((with_reducible refine' ex_var (i := 1) (x := "delay") ?h ?g ?q); (case h => exact At.b rfl (by first | exact Or.inl rfl | exact Or.inr (Or.inl rfl) | exact Or.inr (Or.inr rfl))); (case g => rfl))
  | ((with_reducible refine' ex_var (i := 2) (x := "sends") ?h ?g ?q); (case h => exact At.b rfl (by first | exact Or.inl rfl | exact Or.inr (Or.inl rfl) | exact Or.inr (Or.inr rfl))); (case g => rfl))
  | ((with_reducible refine' ex_var (i := 3) (x := "comes") ?h ?g ?q); (case h => exact At.b rfl (by first | exact Or.inl rfl | exact Or.inr (Or.inl rfl) | exact Or.inr (Or.inr rfl))); (case g => rfl))
  | ((with_reducible refine' ex_var (i := 4) (x := "beat") ?h ?g ?q); (case h => exact At.b rfl (by first | exact Or.inl rfl | exact Or.inr (Or.inl rfl) | exact Or.inr (Or.inr rfl))); (case g => rfl))
  | ((with_reducible refine' ex_var (i := 5) (x := "number") ?h ?g ?q); (case h => exact At.b rfl (by first | exact Or.inl rfl | exact Or.inr (Or.inl rfl) | exact Or.inr (Or.inr rfl))); (case g => rfl)))
local macro_rules | `(tactic| wtm_at "w all_done") => `(tactic| repeat (first | wtm_at "v all_done" | wtm_at "e" | wtm_at "ei" | wtm_at "c"))
local macro_rules | `(tactic| wtm_at "wb all_done") => `(tactic| repeat (first | wtm_at "vb all_done" | wtm_at "e" | wtm_at "cb"))
local macro_rules | `(tactic| wtm_at "g all_done") => `(tactic| repeat (first | wtm_at "v all_done" | wtm_at "e2" | wtm_at "e" | wtm_at "ei" | wtm_at "c"))
local macro_rules | `(tactic| wtm_at "gb all_done") => `(tactic| repeat (first | wtm_at "vb all_done" | wtm_at "e2" | wtm_at "e" | wtm_at "cb"))
local macro_rules | `(tactic| wtm_at "h all_done") => `(tactic| repeat (first | wtm_at "v all_done" | wtm_at "e2" | wtm_at "e" | wtm_at "c"))
abbrev X_all_done (P : Program) (w : World) (K : PySem.W.Frag) (mg : Str → Option Value) (base : Heap) (f : Addr) (cdv : Value) (A : Around) (outer : List Env) (s : Shared) (H : Hp) (E : XK) : Cx := (cxOf CX0 P w K mg base n_all_done "all_done" (defScope s_all_done) f cdv A outer s H E).nox
abbrev s_choices : Stmt := top 30
abbrev n_choices : List Str := ["many", "size", "low", "found", "number", "rest"]
theorem sc_choices : FnScope n_choices ["many", "size", "low"] (defScope s_choices) := ⟨rfl, rfl, rfl, by decide +kernel, rfl, by decide +kernel, by decide +kernel⟩
theorem a_choices_0 : atB n_choices (defScope s_choices) 0 "many" = true := by decide +kernel
theorem a_choices_1 : atB n_choices (defScope s_choices) 1 "size" = true := by decide +kernel
theorem a_choices_2 : atB n_choices (defScope s_choices) 2 "low" = true := by decide +kernel
theorem a_choices_3 : atB n_choices (defScope s_choices) 3 "found" = true := by decide +kernel
theorem a_choices_4 : atB n_choices (defScope s_choices) 4 "number" = true := by decide +kernel
local macro_rules | `(tactic| wtm_at "v choices") => `(tactic| first
  | ((with_reducible refine' ex_var (i := 0) (x := "many") ?h ?g ?q); (case h => exact At.of rfl rfl a_choices_0); (case g => rfl))
  | ((with_reducible refine' ex_var (i := 1) (x := "size") ?h ?g ?q); (case h => exact At.of rfl rfl a_choices_1); (case g => rfl))
  | ((with_reducible refine' ex_var (i := 2) (x := "low") ?h ?g ?q); (case h => exact At.of rfl rfl a_choices_2); (case g => rfl))
  | ((with_reducible refine' ex_var (i := 3) (x := "found") ?h ?g ?q); (case h => exact At.of rfl rfl a_choices_3); (case g => rfl))
  | ((with_reducible refine' ex_var (i := 4) (x := "number") ?h ?g ?q); (case h => exact At.of rfl rfl a_choices_4); (case g => rfl))
  | ((with_reducible refine sx_set (i := 0) (x := "many") ?h ?s ?q); (case h => exact Lc.of sc_choices.nd rfl rfl (.inl rfl) a_choices_0); (case s => rfl))
  | ((with_reducible refine gx_name (i := 0) (x := "many") ?h ?q); (case h => exact Lc.of sc_choices.nd rfl rfl (.inl rfl) a_choices_0))
  | ((with_reducible refine sx_set (i := 1) (x := "size") ?h ?s ?q); (case h => exact Lc.of sc_choices.nd rfl rfl (.inl rfl) a_choices_1); (case s => rfl))
  | ((with_reducible refine gx_name (i := 1) (x := "size") ?h ?q); (case h => exact Lc.of sc_choices.nd rfl rfl (.inl rfl) a_choices_1))
  | ((with_reducible refine sx_set (i := 2) (x := "low") ?h ?s ?q); (case h => exact Lc.of sc_choices.nd rfl rfl (.inl rfl) a_choices_2); (case s => rfl))
  | ((with_reducible refine gx_name (i := 2) (x := "low") ?h ?q); (case h => exact Lc.of sc_choices.nd rfl rfl (.inl rfl) a_choices_2))
  | ((with_reducible refine sx_set (i := 3) (x := "found") ?h ?s ?q); (case h => exact Lc.of sc_choices.nd rfl rfl (.inl rfl) a_choices_3); (case s => rfl))
  | ((with_reducible refine gx_name (i := 3) (x := "found") ?h ?q); (case h => exact Lc.of sc_choices.nd rfl rfl (.inl rfl) a_choices_3))
  | ((with_reducible refine sx_set (i := 4) (x := "number") ?h ?s ?q); (case h => exact Lc.of sc_choices.nd rfl rfl (.inl rfl) a_choices_4); (case s => rfl))
  | ((with_reducible refine gx_name (i := 4) (x := "number") ?h ?q); (case h => exact Lc.of sc_choices.nd rfl rfl (.inl rfl) a_choices_4)))
local macro_rules | `(tactic| wtm_at "vb choices") => `(tactic| first
  | ((with_reducible refine' ex_var (i := 0) (x := "many") ?h ?g ?q); (case h => exact At.b rfl (by first | exact Or.inl rfl | exact Or.inr (Or.inl rfl) | exact Or.inr (Or.inr rfl))); (case g => rfl))
  | ((with_reducible refine' ex_var (i := 1) (x := "size") ?h ?g ?q); (case h => exact At.b rfl (by first | exact Or.inl rfl | exact Or.inr (Or.inl rfl) | exact Or.inr (Or.inr rfl))); (case g => rfl))
  | ((with_reducible refine' ex_var (i := 2) (x := "low") ?h ?g ?q); (case h => exact At.b rfl (by first | exact Or.inl rfl | exact Or.inr (Or.inl rfl) | exact Or.inr (Or.inr rfl))); (case g => rfl))
  | ((with_reducible refine' ex_var (i := 3) (x := "found") ?h ?g ?q); (case h => exact At.b rfl (by first | exact Or.inl rfl | exact Or.inr (Or.inl rfl) | exact Or.inr (Or.inr rfl))); (case g => rfl))
  | ((with_reducible refine' ex_var (i := 4) (x := "number") ?h ?g ?q); (case h => exact At.b rfl (by first | exact Or.inl rfl | exact Or.inr (Or.inl rfl) | exact Or.inr (Or.inr rfl))); (case g => rfl))
  | ((with_reducible refine' ex_var (i := 5) (x := "rest") ?h ?g ?q); (case h => exact At.b rfl (by first | exact Or.inl rfl | exact Or.inr (Or.inl rfl) | exact Or.inr (Or.inr rfl))); (case g => rfl)))
local macro_rules | `(tactic| wtm_at "w choices") => `(tactic| repeat (first | wtm_at "v choices" | wtm_at "e" | wtm_at "ei" | wtm_at "c"))
local macro_rules | `(tactic| wtm_at "wb choices") => `(tactic| repeat (first | wtm_at "vb choices" | wtm_at "e" | wtm_at "cb"))
local macro_rules | `(tactic| wtm_at "g choices") => `(tactic| repeat (first | wtm_at "v choices" | wtm_at "e2" | wtm_at "e" | wtm_at "ei" | wtm_at "c"))
local macro_rules | `(tactic| wtm_at "gb choices") => `(tactic| repeat (first | wtm_at "vb choices" | wtm_at "e2" | wtm_at "e" | wtm_at "cb"))
local macro_rules | `(tactic| wtm_at "h choices") => `(tactic| repeat (first | wtm_at "v choices" | wtm_at "e2" | wtm_at "e" | wtm_at "c"))
local macro_rules | `(tactic| wtm_at "lc choices 0") => `(tactic| refine' ex_lc (own := [("rest", 5)]) (t := .inl 5)  rfl sc_choices.nd (blkOk_by (N := n_choices) (sc := defScope s_choices) (by decide +kernel)) (by decide) (fun _ _ _ _ _ => pg_name (i := 5) sc_choices.nd rfl (Or.inl rfl)) (fun _ => rfl) ?_)
local macro_rules | `(tactic| wtm_at "lcM choices 0") => `(tactic| refine' ex_lcM (own := [("rest", 5)]) (t := .inl 5)  rfl sc_choices.nd (blkOk_by (N := n_choices) (sc := defScope s_choices) (by decide +kernel)) (by decide) (fun _ _ _ _ _ => pg_name (i := 5) sc_choices.nd rfl (Or.inl rfl)) (fun _ => rfl) ?_)
local macro_rules | `(tactic| wtm_at "lcp choices 0") => `(tactic| refine' ex_lcp (own := [("rest", 5)]) (t := .inl 5) ?f rfl sc_choices.nd (blkOk_by (N := n_choices) (sc := defScope s_choices) (by decide +kernel)) (by decide) (fun _ _ _ _ _ => pg_name (i := 5) sc_choices.nd rfl (Or.inl rfl)) (fun _ => rfl) ?_)
local macro_rules | `(tactic| wtm_at "lcpM choices 0") => `(tactic| refine' ex_lcpM (own := [("rest", 5)]) (t := .inl 5) ?f rfl sc_choices.nd (blkOk_by (N := n_choices) (sc := defScope s_choices) (by decide +kernel)) (by decide) (fun _ _ _ _ _ => pg_name (i := 5) sc_choices.nd rfl (Or.inl rfl)) (fun _ => rfl) ?_)
abbrev X_choices (P : Program) (w : World) (K : PySem.W.Frag) (mg : Str → Option Value) (base : Heap) (f : Addr) (cdv : Value) (A : Around) (outer : List Env) (s : Shared) (H : Hp) (E : XK) : Cx := (cxOf CX0 P w K mg base n_choices "choices" (defScope s_choices) f cdv A outer s H E).nox
abbrev s_weak : Stmt := top 31
abbrev n_weak : List Str := ["book", "delay", "sends", "most", "size", "lost", "k"]
theorem sc_weak : FnScope n_weak ["book", "delay", "sends", "most"] (defScope s_weak) := ⟨rfl, rfl, rfl, by decide +kernel, rfl, by decide +kernel, by decide +kernel⟩
theorem a_weak_0 : atB n_weak (defScope s_weak) 0 "book" = true := by decide +kernel
theorem a_weak_1 : atB n_weak (defScope s_weak) 1 "delay" = true := by decide +kernel
theorem a_weak_2 : atB n_weak (defScope s_weak) 2 "sends" = true := by decide +kernel
theorem a_weak_3 : atB n_weak (defScope s_weak) 3 "most" = true := by decide +kernel
theorem a_weak_4 : atB n_weak (defScope s_weak) 4 "size" = true := by decide +kernel
theorem a_weak_5 : atB n_weak (defScope s_weak) 5 "lost" = true := by decide +kernel
local macro_rules | `(tactic| wtm_at "v weak") => `(tactic| first
  | ((with_reducible refine' ex_var (i := 0) (x := "book") ?h ?g ?q); (case h => exact At.of rfl rfl a_weak_0); (case g => rfl))
  | ((with_reducible refine' ex_var (i := 1) (x := "delay") ?h ?g ?q); (case h => exact At.of rfl rfl a_weak_1); (case g => rfl))
  | ((with_reducible refine' ex_var (i := 2) (x := "sends") ?h ?g ?q); (case h => exact At.of rfl rfl a_weak_2); (case g => rfl))
  | ((with_reducible refine' ex_var (i := 3) (x := "most") ?h ?g ?q); (case h => exact At.of rfl rfl a_weak_3); (case g => rfl))
  | ((with_reducible refine' ex_var (i := 4) (x := "size") ?h ?g ?q); (case h => exact At.of rfl rfl a_weak_4); (case g => rfl))
  | ((with_reducible refine' ex_var (i := 5) (x := "lost") ?h ?g ?q); (case h => exact At.of rfl rfl a_weak_5); (case g => rfl))
  | ((with_reducible refine sx_set (i := 0) (x := "book") ?h ?s ?q); (case h => exact Lc.of sc_weak.nd rfl rfl (.inl rfl) a_weak_0); (case s => rfl))
  | ((with_reducible refine gx_name (i := 0) (x := "book") ?h ?q); (case h => exact Lc.of sc_weak.nd rfl rfl (.inl rfl) a_weak_0))
  | ((with_reducible refine sx_set (i := 1) (x := "delay") ?h ?s ?q); (case h => exact Lc.of sc_weak.nd rfl rfl (.inl rfl) a_weak_1); (case s => rfl))
  | ((with_reducible refine gx_name (i := 1) (x := "delay") ?h ?q); (case h => exact Lc.of sc_weak.nd rfl rfl (.inl rfl) a_weak_1))
  | ((with_reducible refine sx_set (i := 2) (x := "sends") ?h ?s ?q); (case h => exact Lc.of sc_weak.nd rfl rfl (.inl rfl) a_weak_2); (case s => rfl))
  | ((with_reducible refine gx_name (i := 2) (x := "sends") ?h ?q); (case h => exact Lc.of sc_weak.nd rfl rfl (.inl rfl) a_weak_2))
  | ((with_reducible refine sx_set (i := 3) (x := "most") ?h ?s ?q); (case h => exact Lc.of sc_weak.nd rfl rfl (.inl rfl) a_weak_3); (case s => rfl))
  | ((with_reducible refine gx_name (i := 3) (x := "most") ?h ?q); (case h => exact Lc.of sc_weak.nd rfl rfl (.inl rfl) a_weak_3))
  | ((with_reducible refine sx_set (i := 4) (x := "size") ?h ?s ?q); (case h => exact Lc.of sc_weak.nd rfl rfl (.inl rfl) a_weak_4); (case s => rfl))
  | ((with_reducible refine gx_name (i := 4) (x := "size") ?h ?q); (case h => exact Lc.of sc_weak.nd rfl rfl (.inl rfl) a_weak_4))
  | ((with_reducible refine sx_set (i := 5) (x := "lost") ?h ?s ?q); (case h => exact Lc.of sc_weak.nd rfl rfl (.inl rfl) a_weak_5); (case s => rfl))
  | ((with_reducible refine gx_name (i := 5) (x := "lost") ?h ?q); (case h => exact Lc.of sc_weak.nd rfl rfl (.inl rfl) a_weak_5)))
local macro_rules | `(tactic| wtm_at "vb weak") => `(tactic| first
  | ((with_reducible refine' ex_var (i := 0) (x := "book") ?h ?g ?q); (case h => exact At.b rfl (by first | exact Or.inl rfl | exact Or.inr (Or.inl rfl) | exact Or.inr (Or.inr rfl))); (case g => rfl))
  | ((with_reducible refine' ex_var (i := 1) (x := "delay") ?h ?g ?q); (case h => exact At.b rfl (by first | exact Or.inl rfl | exact Or.inr (Or.inl rfl) | exact Or.inr (Or.inr rfl))); (case g => rfl))
  | ((with_reducible refine' ex_var (i := 2) (x := "sends") ?h ?g ?q); (case h => exact At.b rfl (by first | exact Or.inl rfl | exact Or.inr (Or.inl rfl) | exact Or.inr (Or.inr rfl))); (case g => rfl))
  | ((with_reducible refine' ex_var (i := 3) (x := "most") ?h ?g ?q); (case h => exact At.b rfl (by first | exact Or.inl rfl | exact Or.inr (Or.inl rfl) | exact Or.inr (Or.inr rfl))); (case g => rfl))
  | ((with_reducible refine' ex_var (i := 4) (x := "size") ?h ?g ?q); (case h => exact At.b rfl (by first | exact Or.inl rfl | exact Or.inr (Or.inl rfl) | exact Or.inr (Or.inr rfl))); (case g => rfl))
  | ((with_reducible refine' ex_var (i := 5) (x := "lost") ?h ?g ?q); (case h => exact At.b rfl (by first | exact Or.inl rfl | exact Or.inr (Or.inl rfl) | exact Or.inr (Or.inr rfl))); (case g => rfl))
  | ((with_reducible refine' ex_var (i := 6) (x := "k") ?h ?g ?q); (case h => exact At.b rfl (by first | exact Or.inl rfl | exact Or.inr (Or.inl rfl) | exact Or.inr (Or.inr rfl))); (case g => rfl)))
local macro_rules | `(tactic| wtm_at "w weak") => `(tactic| repeat (first | wtm_at "v weak" | wtm_at "e" | wtm_at "ei" | wtm_at "c"))
local macro_rules | `(tactic| wtm_at "wb weak") => `(tactic| repeat (first | wtm_at "vb weak" | wtm_at "e" | wtm_at "cb"))
local macro_rules | `(tactic| wtm_at "g weak") => `(tactic| repeat (first | wtm_at "v weak" | wtm_at "e2" | wtm_at "e" | wtm_at "ei" | wtm_at "c"))
local macro_rules | `(tactic| wtm_at "gb weak") => `(tactic| repeat (first | wtm_at "vb weak" | wtm_at "e2" | wtm_at "e" | wtm_at "cb"))
local macro_rules | `(tactic| wtm_at "h weak") => `(tactic| repeat (first | wtm_at "v weak" | wtm_at "e2" | wtm_at "e" | wtm_at "c"))
local macro_rules | `(tactic| wtm_at "lc weak 0") => `(tactic| refine' ex_lc (own := [("k", 6)]) (t := .inl 6)  rfl sc_weak.nd (blkOk_by (N := n_weak) (sc := defScope s_weak) (by decide +kernel)) (by decide) (fun _ _ _ _ _ => pg_name (i := 6) sc_weak.nd rfl (Or.inl rfl)) (fun _ => rfl) ?_)
local macro_rules | `(tactic| wtm_at "lcM weak 0") => `(tactic| refine' ex_lcM (own := [("k", 6)]) (t := .inl 6)  rfl sc_weak.nd (blkOk_by (N := n_weak) (sc := defScope s_weak) (by decide +kernel)) (by decide) (fun _ _ _ _ _ => pg_name (i := 6) sc_weak.nd rfl (Or.inl rfl)) (fun _ => rfl) ?_)
local macro_rules | `(tactic| wtm_at "lcp weak 0") => `(tactic| refine' ex_lcp (own := [("k", 6)]) (t := .inl 6) ?f rfl sc_weak.nd (blkOk_by (N := n_weak) (sc := defScope s_weak) (by decide +kernel)) (by decide) (fun _ _ _ _ _ => pg_name (i := 6) sc_weak.nd rfl (Or.inl rfl)) (fun _ => rfl) ?_)
local macro_rules | `(tactic| wtm_at "lcpM weak 0") => `(tactic| refine' ex_lcpM (own := [("k", 6)]) (t := .inl 6) ?f rfl sc_weak.nd (blkOk_by (N := n_weak) (sc := defScope s_weak) (by decide +kernel)) (by decide) (fun _ _ _ _ _ => pg_name (i := 6) sc_weak.nd rfl (Or.inl rfl)) (fun _ => rfl) ?_)
abbrev X_weak (P : Program) (w : World) (K : PySem.W.Frag) (mg : Str → Option Value) (base : Heap) (f : Addr) (cdv : Value) (A : Around) (outer : List Env) (s : Shared) (H : Hp) (E : XK) : Cx := (cxOf CX0 P w K mg base n_weak "weak" (defScope s_weak) f cdv A outer s H E).nox
abbrev s_heard : Stmt := top 33
abbrev n_heard : List Str := ["state", "letter", "word", "number"]
theorem sc_heard : FnScope n_heard ["state", "letter"] (defScope s_heard) := ⟨rfl, rfl, rfl, by decide +kernel, rfl, by decide +kernel, by decide +kernel⟩
theorem a_heard_0 : atB n_heard (defScope s_heard) 0 "state" = true := by decide +kernel
theorem a_heard_1 : atB n_heard (defScope s_heard) 1 "letter" = true := by decide +kernel
theorem a_heard_2 : atB n_heard (defScope s_heard) 2 "word" = true := by decide +kernel
theorem a_heard_3 : atB n_heard (defScope s_heard) 3 "number" = true := by decide +kernel
local macro_rules | `(tactic| wtm_at "v heard") => `(tactic| first
  | ((with_reducible refine' ex_var (i := 0) (x := "state") ?h ?g ?q); (case h => exact At.of rfl rfl a_heard_0); (case g => rfl))
  | ((with_reducible refine' ex_var (i := 1) (x := "letter") ?h ?g ?q); (case h => exact At.of rfl rfl a_heard_1); (case g => rfl))
  | ((with_reducible refine' ex_var (i := 2) (x := "word") ?h ?g ?q); (case h => exact At.of rfl rfl a_heard_2); (case g => rfl))
  | ((with_reducible refine' ex_var (i := 3) (x := "number") ?h ?g ?q); (case h => exact At.of rfl rfl a_heard_3); (case g => rfl))
  | ((with_reducible refine sx_set (i := 0) (x := "state") ?h ?s ?q); (case h => exact Lc.of sc_heard.nd rfl rfl (.inl rfl) a_heard_0); (case s => rfl))
  | ((with_reducible refine gx_name (i := 0) (x := "state") ?h ?q); (case h => exact Lc.of sc_heard.nd rfl rfl (.inl rfl) a_heard_0))
  | ((with_reducible refine sx_set (i := 1) (x := "letter") ?h ?s ?q); (case h => exact Lc.of sc_heard.nd rfl rfl (.inl rfl) a_heard_1); (case s => rfl))
  | ((with_reducible refine gx_name (i := 1) (x := "letter") ?h ?q); (case h => exact Lc.of sc_heard.nd rfl rfl (.inl rfl) a_heard_1))
  | ((with_reducible refine sx_set (i := 2) (x := "word") ?h ?s ?q); (case h => exact Lc.of sc_heard.nd rfl rfl (.inl rfl) a_heard_2); (case s => rfl))
  | ((with_reducible refine gx_name (i := 2) (x := "word") ?h ?q); (case h => exact Lc.of sc_heard.nd rfl rfl (.inl rfl) a_heard_2))
  | ((with_reducible refine sx_set (i := 3) (x := "number") ?h ?s ?q); (case h => exact Lc.of sc_heard.nd rfl rfl (.inl rfl) a_heard_3); (case s => rfl))
  | ((with_reducible refine gx_name (i := 3) (x := "number") ?h ?q); (case h => exact Lc.of sc_heard.nd rfl rfl (.inl rfl) a_heard_3)))
local macro_rules | `(tactic| wtm_at "vb heard") => `(tactic| first
  | ((with_reducible refine' ex_var (i := 0) (x := "state") ?h ?g ?q); (case h => exact At.b rfl (by first | exact Or.inl rfl | exact Or.inr (Or.inl rfl) | exact Or.inr (Or.inr rfl))); (case g => rfl))
  | ((with_reducible refine' ex_var (i := 1) (x := "letter") ?h ?g ?q); (case h => exact At.b rfl (by first | exact Or.inl rfl | exact Or.inr (Or.inl rfl) | exact Or.inr (Or.inr rfl))); (case g => rfl))
  | ((with_reducible refine' ex_var (i := 2) (x := "word") ?h ?g ?q); (case h => exact At.b rfl (by first | exact Or.inl rfl | exact Or.inr (Or.inl rfl) | exact Or.inr (Or.inr rfl))); (case g => rfl))
  | ((with_reducible refine' ex_var (i := 3) (x := "number") ?h ?g ?q); (case h => exact At.b rfl (by first | exact Or.inl rfl | exact Or.inr (Or.inl rfl) | exact Or.inr (Or.inr rfl))); (case g => rfl)))
local macro_rules | `(tactic| wtm_at "w heard") => `(tactic| repeat (first | wtm_at "v heard" | wtm_at "e" | wtm_at "ei" | wtm_at "c"))
local macro_rules | `(tactic| wtm_at "wb heard") => `(tactic| repeat (first | wtm_at "vb heard" | wtm_at "e" | wtm_at "cb"))
local macro_rules | `(tactic| wtm_at "g heard") => `(tactic| repeat (first | wtm_at "v heard" | wtm_at "e2" | wtm_at "e" | wtm_at "ei" | wtm_at "c"))
local macro_rules | `(tactic| wtm_at "gb heard") => `(tactic| repeat (first | wtm_at "vb heard" | wtm_at "e2" | wtm_at "e" | wtm_at "cb"))
local macro_rules | `(tactic| wtm_at "h heard") => `(tactic| repeat (first | wtm_at "v heard" | wtm_at "e2" | wtm_at "e" | wtm_at "c"))
abbrev X_heard (P : Program) (w : World) (K : PySem.W.Frag) (mg : Str → Option Value) (base : Heap) (f : Addr) (cdv : Value) (A : Around) (outer : List Env) (s : Shared) (H : Hp) (E : XK) : Cx := (cxOf CX0 P w K mg base n_heard "heard" (defScope s_heard) f cdv A outer s H E).nox
abbrev s_gone_on : Stmt := top 34
abbrev n_gone_on : List Str := ["book", "state", "beat", "found", "number", "command", "when", "until", "wants", "one"]
theorem sc_gone_on : FnScope n_gone_on ["book", "state", "beat"] (defScope s_gone_on) := ⟨rfl, rfl, rfl, by decide +kernel, rfl, by decide +kernel, by decide +kernel⟩
theorem a_gone_on_0 : atB n_gone_on (defScope s_gone_on) 0 "book" = true := by decide +kernel
theorem a_gone_on_1 : atB n_gone_on (defScope s_gone_on) 1 "state" = true := by decide +kernel
theorem a_gone_on_2 : atB n_gone_on (defScope s_gone_on) 2 "beat" = true := by decide +kernel
theorem a_gone_on_3 : atB n_gone_on (defScope s_gone_on) 3 "found" = true := by decide +kernel
theorem a_gone_on_4 : atB n_gone_on (defScope s_gone_on) 4 "number" = true := by decide +kernel
theorem a_gone_on_5 : atB n_gone_on (defScope s_gone_on) 5 "command" = true := by decide +kernel
theorem a_gone_on_6 : atB n_gone_on (defScope s_gone_on) 6 "when" = true := by decide +kernel
theorem a_gone_on_7 : atB n_gone_on (defScope s_gone_on) 7 "until" = true := by decide +kernel
theorem a_gone_on_8 : atB n_gone_on (defScope s_gone_on) 8 "wants" = true := by decide +kernel
local macro_rules | `(tactic| wtm_at "v gone_on") => `(tactic| first
  | ((with_reducible refine' ex_var (i := 0) (x := "book") ?h ?g ?q); (case h => exact At.of rfl rfl a_gone_on_0); (case g => rfl))
  | ((with_reducible refine' ex_var (i := 1) (x := "state") ?h ?g ?q); (case h => exact At.of rfl rfl a_gone_on_1); (case g => rfl))
  | ((with_reducible refine' ex_var (i := 2) (x := "beat") ?h ?g ?q); (case h => exact At.of rfl rfl a_gone_on_2); (case g => rfl))
  | ((with_reducible refine' ex_var (i := 3) (x := "found") ?h ?g ?q); (case h => exact At.of rfl rfl a_gone_on_3); (case g => rfl))
  | ((with_reducible refine' ex_var (i := 4) (x := "number") ?h ?g ?q); (case h => exact At.of rfl rfl a_gone_on_4); (case g => rfl))
  | ((with_reducible refine' ex_var (i := 5) (x := "command") ?h ?g ?q); (case h => exact At.of rfl rfl a_gone_on_5); (case g => rfl))
  | ((with_reducible refine' ex_var (i := 6) (x := "when") ?h ?g ?q); (case h => exact At.of rfl rfl a_gone_on_6); (case g => rfl))
  | ((with_reducible refine' ex_var (i := 7) (x := "until") ?h ?g ?q); (case h => exact At.of rfl rfl a_gone_on_7); (case g => rfl))
  | ((with_reducible refine' ex_var (i := 8) (x := "wants") ?h ?g ?q); (case h => exact At.of rfl rfl a_gone_on_8); (case g => rfl))
  | ((with_reducible refine sx_set (i := 0) (x := "book") ?h ?s ?q); (case h => exact Lc.of sc_gone_on.nd rfl rfl (.inl rfl) a_gone_on_0); (case s => rfl))
  | ((with_reducible refine gx_name (i := 0) (x := "book") ?h ?q); (case h => exact Lc.of sc_gone_on.nd rfl rfl (.inl rfl) a_gone_on_0))
  | ((with_reducible refine sx_set (i := 1) (x := "state") ?h ?s ?q); (case h => exact Lc.of sc_gone_on.nd rfl rfl (.inl rfl) a_gone_on_1); (case s => rfl))
  | ((with_reducible refine gx_name (i := 1) (x := "state") ?h ?q); (case h => exact Lc.of sc_gone_on.nd rfl rfl (.inl rfl) a_gone_on_1))
  | ((with_reducible refine sx_set (i := 2) (x := "beat") ?h ?s ?q); (case h => exact Lc.of sc_gone_on.nd rfl rfl (.inl rfl) a_gone_on_2); (case s => rfl))
  | ((with_reducible refine gx_name (i := 2) (x := "beat") ?h ?q); (case h => exact Lc.of sc_gone_on.nd rfl rfl (.inl rfl) a_gone_on_2))
  | ((with_reducible refine sx_set (i := 3) (x := "found") ?h ?s ?q); (case h => exact Lc.of sc_gone_on.nd rfl rfl (.inl rfl) a_gone_on_3); (case s => rfl))
  | ((with_reducible refine gx_name (i := 3) (x := "found") ?h ?q); (case h => exact Lc.of sc_gone_on.nd rfl rfl (.inl rfl) a_gone_on_3))
  | ((with_reducible refine sx_set (i := 4) (x := "number") ?h ?s ?q); (case h => exact Lc.of sc_gone_on.nd rfl rfl (.inl rfl) a_gone_on_4); (case s => rfl))
  | ((with_reducible refine gx_name (i := 4) (x := "number") ?h ?q); (case h => exact Lc.of sc_gone_on.nd rfl rfl (.inl rfl) a_gone_on_4))
  | ((with_reducible refine sx_set (i := 5) (x := "command") ?h ?s ?q); (case h => exact Lc.of sc_gone_on.nd rfl rfl (.inl rfl) a_gone_on_5); (case s => rfl))
  | ((with_reducible refine gx_name (i := 5) (x := "command") ?h ?q); (case h => exact Lc.of sc_gone_on.nd rfl rfl (.inl rfl) a_gone_on_5))
  | ((with_reducible refine sx_set (i := 6) (x := "when") ?h ?s ?q); (case h => exact Lc.of sc_gone_on.nd rfl rfl (.inl rfl) a_gone_on_6); (case s => rfl))
  | ((with_reducible refine gx_name (i := 6) (x := "when") ?h ?q); (case h => exact Lc.of sc_gone_on.nd rfl rfl (.inl rfl) a_gone_on_6))
  | ((with_reducible refine sx_set (i := 7) (x := "until") ?h ?s ?q); (case h => exact Lc.of sc_gone_on.nd rfl rfl (.inl rfl) a_gone_on_7); (case s => rfl))
  | ((with_reducible refine gx_name (i := 7) (x := "until") ?h ?q); (case h => exact Lc.of sc_gone_on.nd rfl rfl (.inl rfl) a_gone_on_7))
  | ((with_reducible refine sx_set (i := 8) (x := "wants") ?h ?s ?q); (case h => exact Lc.of sc_gone_on.nd rfl rfl (.inl rfl) a_gone_on_8); (case s => rfl))
  | ((with_reducible refine gx_name (i := 8) (x := "wants") ?h ?q); (case h => exact Lc.of sc_gone_on.nd rfl rfl (.inl rfl) a_gone_on_8)))
local macro_rules | `(tactic| wtm_at "vb gone_on") => `(tactic| first
  | ((with_reducible refine' ex_var (i := 0) (x := "book") ?h ?g ?q); (case h => exact At.b rfl (by first | exact Or.inl rfl | exact Or.inr (Or.inl rfl) | exact Or.inr (Or.inr rfl))); (case g => rfl))
  | ((with_reducible refine' ex_var (i := 1) (x := "state") ?h ?g ?q); (case h => exact At.b rfl (by first | exact Or.inl rfl | exact Or.inr (Or.inl rfl) | exact Or.inr (Or.inr rfl))); (case g => rfl))
  | ((with_reducible refine' ex_var (i := 2) (x := "beat") ?h ?g ?q); (case h => exact At.b rfl (by first | exact Or.inl rfl | exact Or.inr (Or.inl rfl) | exact Or.inr (Or.inr rfl))); (case g => rfl))
  | ((with_reducible refine' ex_var (i := 3) (x := "found") ?h ?g ?q); (case h => exact At.b rfl (by first | exact Or.inl rfl | exact Or.inr (Or.inl rfl) | exact Or.inr (Or.inr rfl))); (case g => rfl))
  | ((with_reducible refine' ex_var (i := 4) (x := "number") ?h ?g ?q); (case h => exact At.b rfl (by first | exact Or.inl rfl | exact Or.inr (Or.inl rfl) | exact Or.inr (Or.inr rfl))); (case g => rfl))
  | ((with_reducible refine' ex_var (i := 5) (x := "command") ?h ?g ?q); (case h => exact At.b rfl (by first | exact Or.inl rfl | exact Or.inr (Or.inl rfl) | exact Or.inr (Or.inr rfl))); (case g => rfl))
  | ((with_reducible refine' ex_var (i := 6) (x := "when") ?h ?g ?q); (case h => exact At.b rfl (by first | exact Or.inl rfl | exact Or.inr (Or.inl rfl) | exact Or.inr (Or.inr rfl))); (case g => rfl))
  | ((with_reducible refine' ex_var (i := 7) (x := "until") ?h ?g ?q); (case h => exact At.b rfl (by first | exact Or.inl rfl | exact Or.inr (Or.inl rfl) | exact Or.inr (Or.inr rfl))); (case g => rfl))
  | ((with_reducible refine' ex_var (i := 8) (x := "wants") ?h ?g ?q); (case h => exact At.b rfl (by first | exact Or.inl rfl | exact Or.inr (Or.inl rfl) | exact Or.inr (Or.inr rfl))); (case g => rfl))
  | ((with_reducible refine' ex_var (i := 9) (x := "one") ?h ?g ?q); (case h => exact At.b rfl (by first | exact Or.inl rfl | exact Or.inr (Or.inl rfl) | exact Or.inr (Or.inr rfl))); (case g => rfl)))
local macro_rules | `(tactic| wtm_at "w gone_on") => `(tactic| repeat (first | wtm_at "v gone_on" | wtm_at "e" | wtm_at "ei" | wtm_at "c"))
local macro_rules | `(tactic| wtm_at "wb gone_on") => `(tactic| repeat (first | wtm_at "vb gone_on" | wtm_at "e" | wtm_at "cb"))
local macro_rules | `(tactic| wtm_at "g gone_on") => `(tactic| repeat (first | wtm_at "v gone_on" | wtm_at "e2" | wtm_at "e" | wtm_at "ei" | wtm_at "c"))
local macro_rules | `(tactic| wtm_at "gb gone_on") => `(tactic| repeat (first | wtm_at "vb gone_on" | wtm_at "e2" | wtm_at "e" | wtm_at "cb"))
local macro_rules | `(tactic| wtm_at "h gone_on") => `(tactic| repeat (first | wtm_at "v gone_on" | wtm_at "e2" | wtm_at "e" | wtm_at "c"))
local macro_rules | `(tactic| wtm_at "lc gone_on 0") => `(tactic| refine' ex_lc (own := [("one", 9)]) (t := .inl 9)  rfl sc_gone_on.nd (blkOk_by (N := n_gone_on) (sc := defScope s_gone_on) (by decide +kernel)) (by decide) (fun _ _ _ _ _ => pg_name (i := 9) sc_gone_on.nd rfl (Or.inl rfl)) (fun _ => rfl) ?_)
local macro_rules | `(tactic| wtm_at "lcM gone_on 0") => `(tactic| refine' ex_lcM (own := [("one", 9)]) (t := .inl 9)  rfl sc_gone_on.nd (blkOk_by (N := n_gone_on) (sc := defScope s_gone_on) (by decide +kernel)) (by decide) (fun _ _ _ _ _ => pg_name (i := 9) sc_gone_on.nd rfl (Or.inl rfl)) (fun _ => rfl) ?_)
local macro_rules | `(tactic| wtm_at "lcp gone_on 0") => `(tactic| refine' ex_lcp (own := [("one", 9)]) (t := .inl 9) ?f rfl sc_gone_on.nd (blkOk_by (N := n_gone_on) (sc := defScope s_gone_on) (by decide +kernel)) (by decide) (fun _ _ _ _ _ => pg_name (i := 9) sc_gone_on.nd rfl (Or.inl rfl)) (fun _ => rfl) ?_)
local macro_rules | `(tactic| wtm_at "lcpM gone_on 0") => `(tactic| refine' ex_lcpM (own := [("one", 9)]) (t := .inl 9) ?f rfl sc_gone_on.nd (blkOk_by (N := n_gone_on) (sc := defScope s_gone_on) (by decide +kernel)) (by decide) (fun _ _ _ _ _ => pg_name (i := 9) sc_gone_on.nd rfl (Or.inl rfl)) (fun _ => rfl) ?_)
abbrev X_gone_on (P : Program) (w : World) (K : PySem.W.Frag) (mg : Str → Option Value) (base : Heap) (f : Addr) (cdv : Value) (A : Around) (outer : List Env) (s : Shared) (H : Hp) (E : XK) : Cx := (cxOf CX0 P w K mg base n_gone_on "gone_on" (defScope s_gone_on) f cdv A outer s H E).nox
abbrev s_beaten : Stmt := top 35
abbrev n_beaten : List Str := ["book", "state", "letters", "beat", "letter"]
theorem sc_beaten : FnScope n_beaten ["book", "state", "letters", "beat"] (defScope s_beaten) := ⟨rfl, rfl, rfl, by decide +kernel, rfl, by decide +kernel, by decide +kernel⟩
theorem a_beaten_0 : atB n_beaten (defScope s_beaten) 0 "book" = true := by decide +kernel
theorem a_beaten_1 : atB n_beaten (defScope s_beaten) 1 "state" = true := by decide +kernel
theorem a_beaten_2 : atB n_beaten (defScope s_beaten) 2 "letters" = true := by decide +kernel
theorem a_beaten_3 : atB n_beaten (defScope s_beaten) 3 "beat" = true := by decide +kernel
theorem a_beaten_4 : atB n_beaten (defScope s_beaten) 4 "letter" = true := by decide +kernel
local macro_rules | `(tactic| wtm_at "v beaten") => `(tactic| first
  | ((with_reducible refine' ex_var (i := 0) (x := "book") ?h ?g ?q); (case h => exact At.of rfl rfl a_beaten_0); (case g => rfl))
  | ((with_reducible refine' ex_var (i := 1) (x := "state") ?h ?g ?q); (case h => exact At.of rfl rfl a_beaten_1); (case g => rfl))
  | ((with_reducible refine' ex_var (i := 2) (x := "letters") ?h ?g ?q); (case h => exact At.of rfl rfl a_beaten_2); (case g => rfl))
  | ((with_reducible refine' ex_var (i := 3) (x := "beat") ?h ?g ?q); (case h => exact At.of rfl rfl a_beaten_3); (case g => rfl))
  | ((with_reducible refine' ex_var (i := 4) (x := "letter") ?h ?g ?q); (case h => exact At.of rfl rfl a_beaten_4); (case g => rfl))
  | ((with_reducible refine sx_set (i := 0) (x := "book") ?h ?s ?q); (case h => exact Lc.of sc_beaten.nd rfl rfl (.inl rfl) a_beaten_0); (case s => rfl))
  | ((with_reducible refine gx_name (i := 0) (x := "book") ?h ?q); (case h => exact Lc.of sc_beaten.nd rfl rfl (.inl rfl) a_beaten_0))
  | ((with_reducible refine sx_set (i := 1) (x := "state") ?h ?s ?q); (case h => exact Lc.of sc_beaten.nd rfl rfl (.inl rfl) a_beaten_1); (case s => rfl))
  | ((with_reducible refine gx_name (i := 1) (x := "state") ?h ?q); (case h => exact Lc.of sc_beaten.nd rfl rfl (.inl rfl) a_beaten_1))
  | ((with_reducible refine sx_set (i := 2) (x := "letters") ?h ?s ?q); (case h => exact Lc.of sc_beaten.nd rfl rfl (.inl rfl) a_beaten_2); (case s => rfl))
  | ((with_reducible refine gx_name (i := 2) (x := "letters") ?h ?q); (case h => exact Lc.of sc_beaten.nd rfl rfl (.inl rfl) a_beaten_2))
  | ((with_reducible refine sx_set (i := 3) (x := "beat") ?h ?s ?q); (case h => exact Lc.of sc_beaten.nd rfl rfl (.inl rfl) a_beaten_3); (case s => rfl))
  | ((with_reducible refine gx_name (i := 3) (x := "beat") ?h ?q); (case h => exact Lc.of sc_beaten.nd rfl rfl (.inl rfl) a_beaten_3))
  | ((with_reducible refine sx_set (i := 4) (x := "letter") ?h ?s ?q); (case h => exact Lc.of sc_beaten.nd rfl rfl (.inl rfl) a_beaten_4); (case s => rfl))
  | ((with_reducible refine gx_name (i := 4) (x := "letter") ?h ?q); (case h => exact Lc.of sc_beaten.nd rfl rfl (.inl rfl) a_beaten_4)))
local macro_rules | `(tactic| wtm_at "vb beaten") => `(tactic| first
  | ((with_reducible refine' ex_var (i := 0) (x := "book") ?h ?g ?q); (case h => exact At.b rfl (by first | exact Or.inl rfl | exact Or.inr (Or.inl rfl) | exact Or.inr (Or.inr rfl))); (case g => rfl))
  | ((with_reducible refine' ex_var (i := 1) (x := "state") ?h ?g ?q); (case h => exact At.b rfl (by first | exact Or.inl rfl | exact Or.inr (Or.inl rfl) | exact Or.inr (Or.inr rfl))); (case g => rfl))
  | ((with_reducible refine' ex_var (i := 2) (x := "letters") ?h ?g ?q); (case h => exact At.b rfl (by first | exact Or.inl rfl | exact Or.inr (Or.inl rfl) | exact Or.inr (Or.inr rfl))); (case g => rfl))
  | ((with_reducible refine' ex_var (i := 3) (x := "beat") ?h ?g ?q); (case h => exact At.b rfl (by first | exact Or.inl rfl | exact Or.inr (Or.inl rfl) | exact Or.inr (Or.inr rfl))); (case g => rfl))
  | ((with_reducible refine' ex_var (i := 4) (x := "letter") ?h ?g ?q); (case h => exact At.b rfl (by first | exact Or.inl rfl | exact Or.inr (Or.inl rfl) | exact Or.inr (Or.inr rfl))); (case g => rfl)))
local macro_rules | `(tactic| wtm_at "w beaten") => `(tactic| repeat (first | wtm_at "v beaten" | wtm_at "e" | wtm_at "ei" | wtm_at "c"))
local macro_rules | `(tactic| wtm_at "wb beaten") => `(tactic| repeat (first | wtm_at "vb beaten" | wtm_at "e" | wtm_at "cb"))
local macro_rules | `(tactic| wtm_at "g beaten") => `(tactic| repeat (first | wtm_at "v beaten" | wtm_at "e2" | wtm_at "e" | wtm_at "ei" | wtm_at "c"))
local macro_rules | `(tactic| wtm_at "gb beaten") => `(tactic| repeat (first | wtm_at "vb beaten" | wtm_at "e2" | wtm_at "e" | wtm_at "cb"))
local macro_rules | `(tactic| wtm_at "h beaten") => `(tactic| repeat (first | wtm_at "v beaten" | wtm_at "e2" | wtm_at "e" | wtm_at "c"))
abbrev X_beaten (P : Program) (w : World) (K : PySem.W.Frag) (mg : Str → Option Value) (base : Heap) (f : Addr) (cdv : Value) (A : Around) (outer : List Env) (s : Shared) (H : Hp) (E : XK) : Cx := (cxOf CX0 P w K mg base n_beaten "beaten" (defScope s_beaten) f cdv A outer s H E).nox
abbrev s_blank : Stmt := top 36
abbrev n_blank : List Str := ["book"]
theorem sc_blank : FnScope n_blank ["book"] (defScope s_blank) := ⟨rfl, rfl, rfl, by decide +kernel, rfl, by decide +kernel, by decide +kernel⟩
theorem a_blank_0 : atB n_blank (defScope s_blank) 0 "book" = true := by decide +kernel
local macro_rules | `(tactic| wtm_at "v blank") => `(tactic| first
  | ((with_reducible refine' ex_var (i := 0) (x := "book") ?h ?g ?q); (case h => exact At.of rfl rfl a_blank_0); (case g => rfl))
  | ((with_reducible refine sx_set (i := 0) (x := "book") ?h ?s ?q); (case h => exact Lc.of sc_blank.nd rfl rfl (.inl rfl) a_blank_0); (case s => rfl))
  | ((with_reducible refine gx_name (i := 0) (x := "book") ?h ?q); (case h => exact Lc.of sc_blank.nd rfl rfl (.inl rfl) a_blank_0)))
local macro_rules | `(tactic| wtm_at "vb blank") => `(tactic| first
  | ((with_reducible refine' ex_var (i := 0) (x := "book") ?h ?g ?q); (case h => exact At.b rfl (by first | exact Or.inl rfl | exact Or.inr (Or.inl rfl) | exact Or.inr (Or.inr rfl))); (case g => rfl)))
local macro_rules | `(tactic| wtm_at "w blank") => `(tactic| repeat (first | wtm_at "v blank" | wtm_at "e" | wtm_at "ei" | wtm_at "c"))
local macro_rules | `(tactic| wtm_at "wb blank") => `(tactic| repeat (first | wtm_at "vb blank" | wtm_at "e" | wtm_at "cb"))
local macro_rules | `(tactic| wtm_at "g blank") => `(tactic| repeat (first | wtm_at "v blank" | wtm_at "e2" | wtm_at "e" | wtm_at "ei" | wtm_at "c"))
local macro_rules | `(tactic| wtm_at "gb blank") => `(tactic| repeat (first | wtm_at "vb blank" | wtm_at "e2" | wtm_at "e" | wtm_at "cb"))
local macro_rules | `(tactic| wtm_at "h blank") => `(tactic| repeat (first | wtm_at "v blank" | wtm_at "e2" | wtm_at "e" | wtm_at "c"))
abbrev X_blank (P : Program) (w : World) (K : PySem.W.Frag) (mg : Str → Option Value) (base : Heap) (f : Addr) (cdv : Value) (A : Around) (outer : List Env) (s : Shared) (H : Hp) (E : XK) : Cx := (cxOf CX0 P w K mg base n_blank "blank" (defScope s_blank) f cdv A outer s H E).nox
abbrev s_Craft_init : Stmt := inClass (top 37) 0
abbrev n_Craft_init : List Str := ["self", "book"]
theorem sc_Craft_init : FnScope n_Craft_init ["self", "book"] (defScope s_Craft_init) := ⟨rfl, rfl, rfl, by decide +kernel, rfl, by decide +kernel, by decide +kernel⟩
theorem a_Craft_init_0 : atB n_Craft_init (defScope s_Craft_init) 0 "self" = true := by decide +kernel
theorem a_Craft_init_1 : atB n_Craft_init (defScope s_Craft_init) 1 "book" = true := by decide +kernel
local macro_rules | `(tactic| wtm_at "v Craft_init") => `(tactic| first
  | ((with_reducible refine' ex_var (i := 0) (x := "self") ?h ?g ?q); (case h => exact At.of rfl rfl a_Craft_init_0); (case g => rfl))
  | ((with_reducible refine' ex_var (i := 1) (x := "book") ?h ?g ?q); (case h => exact At.of rfl rfl a_Craft_init_1); (case g => rfl))
  | ((with_reducible refine sx_set (i := 0) (x := "self") ?h ?s ?q); (case h => exact Lc.of sc_Craft_init.nd rfl rfl (.inl rfl) a_Craft_init_0); (case s => rfl))
  | ((with_reducible refine gx_name (i := 0) (x := "self") ?h ?q); (case h => exact Lc.of sc_Craft_init.nd rfl rfl (.inl rfl) a_Craft_init_0))
  | ((with_reducible refine sx_set (i := 1) (x := "book") ?h ?s ?q); (case h => exact Lc.of sc_Craft_init.nd rfl rfl (.inl rfl) a_Craft_init_1); (case s => rfl))
  | ((with_reducible refine gx_name (i := 1) (x := "book") ?h ?q); (case h => exact Lc.of sc_Craft_init.nd rfl rfl (.inl rfl) a_Craft_init_1)))
local macro_rules | `(tactic| wtm_at "vb Craft_init") => `(tactic| first
  | ((with_reducible refine' ex_var (i := 0) (x := "self") ?h ?g ?q); (case h => exact At.b rfl (by first | exact Or.inl rfl | exact Or.inr (Or.inl rfl) | exact Or.inr (Or.inr rfl))); (case g => rfl))
  | ((with_reducible refine' ex_var (i := 1) (x := "book") ?h ?g ?q); (case h => exact At.b rfl (by first | exact Or.inl rfl | exact Or.inr (Or.inl rfl) | exact Or.inr (Or.inr rfl))); (case g => rfl)))
local macro_rules | `(tactic| wtm_at "w Craft_init") => `(tactic| repeat (first | wtm_at "v Craft_init" | wtm_at "e" | wtm_at "ei" | wtm_at "c"))
local macro_rules | `(tactic| wtm_at "wb Craft_init") => `(tactic| repeat (first | wtm_at "vb Craft_init" | wtm_at "e" | wtm_at "cb"))
local macro_rules | `(tactic| wtm_at "g Craft_init") => `(tactic| repeat (first | wtm_at "v Craft_init" | wtm_at "e2" | wtm_at "e" | wtm_at "ei" | wtm_at "c"))
local macro_rules | `(tactic| wtm_at "gb Craft_init") => `(tactic| repeat (first | wtm_at "vb Craft_init" | wtm_at "e2" | wtm_at "e" | wtm_at "cb"))
local macro_rules | `(tactic| wtm_at "h Craft_init") => `(tactic| repeat (first | wtm_at "v Craft_init" | wtm_at "e2" | wtm_at "e" | wtm_at "c"))
abbrev X_Craft_init (P : Program) (w : World) (K : PySem.W.Frag) (mg : Str → Option Value) (base : Heap) (f : Addr) (cdv : Value) (A : Around) (outer : List Env) (s : Shared) (H : Hp) (E : XK) : Cx := (cxOf CX0 P w K mg base n_Craft_init "Craft.__init__" (defScope s_Craft_init) f cdv A outer s H E).nox
abbrev s_Craft_beat : Stmt := inClass (top 37) 1
abbrev n_Craft_beat : List Str := ["self", "letters"]
theorem sc_Craft_beat : FnScope n_Craft_beat ["self", "letters"] (defScope s_Craft_beat) := ⟨rfl, rfl, rfl, by decide +kernel, rfl, by decide +kernel, by decide +kernel⟩
theorem a_Craft_beat_0 : atB n_Craft_beat (defScope s_Craft_beat) 0 "self" = true := by decide +kernel
theorem a_Craft_beat_1 : atB n_Craft_beat (defScope s_Craft_beat) 1 "letters" = true := by decide +kernel
local macro_rules | `(tactic| wtm_at "v Craft_beat") => `(tactic| first
  | ((with_reducible refine' ex_var (i := 0) (x := "self") ?h ?g ?q); (case h => exact At.of rfl rfl a_Craft_beat_0); (case g => rfl))
  | ((with_reducible refine' ex_var (i := 1) (x := "letters") ?h ?g ?q); (case h => exact At.of rfl rfl a_Craft_beat_1); (case g => rfl))
  | ((with_reducible refine sx_set (i := 0) (x := "self") ?h ?s ?q); (case h => exact Lc.of sc_Craft_beat.nd rfl rfl (.inl rfl) a_Craft_beat_0); (case s => rfl))
  | ((with_reducible refine gx_name (i := 0) (x := "self") ?h ?q); (case h => exact Lc.of sc_Craft_beat.nd rfl rfl (.inl rfl) a_Craft_beat_0))
  | ((with_reducible refine sx_set (i := 1) (x := "letters") ?h ?s ?q); (case h => exact Lc.of sc_Craft_beat.nd rfl rfl (.inl rfl) a_Craft_beat_1); (case s => rfl))
  | ((with_reducible refine gx_name (i := 1) (x := "letters") ?h ?q); (case h => exact Lc.of sc_Craft_beat.nd rfl rfl (.inl rfl) a_Craft_beat_1)))
local macro_rules | `(tactic| wtm_at "vb Craft_beat") => `(tactic| first
  | ((with_reducible refine' ex_var (i := 0) (x := "self") ?h ?g ?q); (case h => exact At.b rfl (by first | exact Or.inl rfl | exact Or.inr (Or.inl rfl) | exact Or.inr (Or.inr rfl))); (case g => rfl))
  | ((with_reducible refine' ex_var (i := 1) (x := "letters") ?h ?g ?q); (case h => exact At.b rfl (by first | exact Or.inl rfl | exact Or.inr (Or.inl rfl) | exact Or.inr (Or.inr rfl))); (case g => rfl)))
local macro_rules | `(tactic| wtm_at "w Craft_beat") => `(tactic| repeat (first | wtm_at "v Craft_beat" | wtm_at "e" | wtm_at "ei" | wtm_at "c"))
local macro_rules | `(tactic| wtm_at "wb Craft_beat") => `(tactic| repeat (first | wtm_at "vb Craft_beat" | wtm_at "e" | wtm_at "cb"))
local macro_rules | `(tactic| wtm_at "g Craft_beat") => `(tactic| repeat (first | wtm_at "v Craft_beat" | wtm_at "e2" | wtm_at "e" | wtm_at "ei" | wtm_at "c"))
local macro_rules | `(tactic| wtm_at "gb Craft_beat") => `(tactic| repeat (first | wtm_at "vb Craft_beat" | wtm_at "e2" | wtm_at "e" | wtm_at "cb"))
local macro_rules | `(tactic| wtm_at "h Craft_beat") => `(tactic| repeat (first | wtm_at "v Craft_beat" | wtm_at "e2" | wtm_at "e" | wtm_at "c"))
abbrev X_Craft_beat (P : Program) (w : World) (K : PySem.W.Frag) (mg : Str → Option Value) (base : Heap) (f : Addr) (cdv : Value) (A : Around) (outer : List Env) (s : Shared) (H : Hp) (E : XK) : Cx := (cxOf CX0 P w K mg base n_Craft_beat "Craft.beat" (defScope s_Craft_beat) f cdv A outer s H E).nox
abbrev s_L_taken : Stmt := top 39
abbrev n_L_taken : List Str := ["_law_row", "_law_many", "_law_cell"]
theorem sc_L_taken : FnScope n_L_taken ["_law_row", "_law_many"] (defScope s_L_taken) := ⟨rfl, rfl, rfl, by decide +kernel, rfl, by decide +kernel, by decide +kernel⟩
theorem a_L_taken_0 : atB n_L_taken (defScope s_L_taken) 0 "_law_row" = true := by decide +kernel
theorem a_L_taken_1 : atB n_L_taken (defScope s_L_taken) 1 "_law_many" = true := by decide +kernel
theorem a_L_taken_2 : atB n_L_taken (defScope s_L_taken) 2 "_law_cell" = true := by decide +kernel
local macro_rules | `(tactic| wtm_at "v L_taken") => `(tactic| first
  | ((with_reducible refine' ex_var (i := 0) (x := "_law_row") ?h ?g ?q); (case h => exact At.of rfl rfl a_L_taken_0); (case g => rfl))
  | ((with_reducible refine' ex_var (i := 1) (x := "_law_many") ?h ?g ?q); (case h => exact At.of rfl rfl a_L_taken_1); (case g => rfl))
  | ((with_reducible refine' ex_var (i := 2) (x := "_law_cell") ?h ?g ?q); (case h => exact At.of rfl rfl a_L_taken_2); (case g => rfl))
  | ((with_reducible refine sx_set (i := 0) (x := "_law_row") ?h ?s ?q); (case h => exact Lc.of sc_L_taken.nd rfl rfl (.inl rfl) a_L_taken_0); (case s => rfl))
  | ((with_reducible refine gx_name (i := 0) (x := "_law_row") ?h ?q); (case h => exact Lc.of sc_L_taken.nd rfl rfl (.inl rfl) a_L_taken_0))
  | ((with_reducible refine sx_set (i := 1) (x := "_law_many") ?h ?s ?q); (case h => exact Lc.of sc_L_taken.nd rfl rfl (.inl rfl) a_L_taken_1); (case s => rfl))
  | ((with_reducible refine gx_name (i := 1) (x := "_law_many") ?h ?q); (case h => exact Lc.of sc_L_taken.nd rfl rfl (.inl rfl) a_L_taken_1))
  | ((with_reducible refine sx_set (i := 2) (x := "_law_cell") ?h ?s ?q); (case h => exact Lc.of sc_L_taken.nd rfl rfl (.inl rfl) a_L_taken_2); (case s => rfl))
  | ((with_reducible refine gx_name (i := 2) (x := "_law_cell") ?h ?q); (case h => exact Lc.of sc_L_taken.nd rfl rfl (.inl rfl) a_L_taken_2)))
local macro_rules | `(tactic| wtm_at "vb L_taken") => `(tactic| first
  | ((with_reducible refine' ex_var (i := 0) (x := "_law_row") ?h ?g ?q); (case h => exact At.b rfl (by first | exact Or.inl rfl | exact Or.inr (Or.inl rfl) | exact Or.inr (Or.inr rfl))); (case g => rfl))
  | ((with_reducible refine' ex_var (i := 1) (x := "_law_many") ?h ?g ?q); (case h => exact At.b rfl (by first | exact Or.inl rfl | exact Or.inr (Or.inl rfl) | exact Or.inr (Or.inr rfl))); (case g => rfl))
  | ((with_reducible refine' ex_var (i := 2) (x := "_law_cell") ?h ?g ?q); (case h => exact At.b rfl (by first | exact Or.inl rfl | exact Or.inr (Or.inl rfl) | exact Or.inr (Or.inr rfl))); (case g => rfl)))
local macro_rules | `(tactic| wtm_at "w L_taken") => `(tactic| repeat (first | wtm_at "v L_taken" | wtm_at "e" | wtm_at "ei" | wtm_at "c"))
local macro_rules | `(tactic| wtm_at "wb L_taken") => `(tactic| repeat (first | wtm_at "vb L_taken" | wtm_at "e" | wtm_at "cb"))
local macro_rules | `(tactic| wtm_at "g L_taken") => `(tactic| repeat (first | wtm_at "v L_taken" | wtm_at "e2" | wtm_at "e" | wtm_at "ei" | wtm_at "c"))
local macro_rules | `(tactic| wtm_at "gb L_taken") => `(tactic| repeat (first | wtm_at "vb L_taken" | wtm_at "e2" | wtm_at "e" | wtm_at "cb"))
local macro_rules | `(tactic| wtm_at "h L_taken") => `(tactic| repeat (first | wtm_at "v L_taken" | wtm_at "e2" | wtm_at "e" | wtm_at "c"))
abbrev X_L_taken (P : Program) (w : World) (K : PySem.W.Frag) (mg : Str → Option Value) (base : Heap) (f : Addr) (cdv : Value) (A : Around) (outer : List Env) (s : Shared) (H : Hp) (E : XK) : Cx := (cxOf CX0 P w K mg base n_L_taken "_law_taken" (defScope s_L_taken) f cdv A outer s H E).nox
abbrev s_L_book : Stmt := top 40
abbrev n_L_book : List Str := ["_law_row", "_law_most", "_law_far", "_law_found", "_law_number", "_law_when", "_law_until", "_law_wants", "_law_one"]
theorem sc_L_book : FnScope n_L_book ["_law_row", "_law_most", "_law_far"] (defScope s_L_book) := ⟨rfl, rfl, rfl, by decide +kernel, rfl, by decide +kernel, by decide +kernel⟩
theorem a_L_book_0 : atB n_L_book (defScope s_L_book) 0 "_law_row" = true := by decide +kernel
theorem a_L_book_1 : atB n_L_book (defScope s_L_book) 1 "_law_most" = true := by decide +kernel
theorem a_L_book_2 : atB n_L_book (defScope s_L_book) 2 "_law_far" = true := by decide +kernel
theorem a_L_book_3 : atB n_L_book (defScope s_L_book) 3 "_law_found" = true := by decide +kernel
theorem a_L_book_4 : atB n_L_book (defScope s_L_book) 4 "_law_number" = true := by decide +kernel
theorem a_L_book_5 : atB n_L_book (defScope s_L_book) 5 "_law_when" = true := by decide +kernel
theorem a_L_book_6 : atB n_L_book (defScope s_L_book) 6 "_law_until" = true := by decide +kernel
theorem a_L_book_7 : atB n_L_book (defScope s_L_book) 7 "_law_wants" = true := by decide +kernel
local macro_rules | `(tactic| wtm_at "v L_book") => `(tactic| first
  | ((with_reducible refine' ex_var (i := 0) (x := "_law_row") ?h ?g ?q); (case h => exact At.of rfl rfl a_L_book_0); (case g => rfl))
  | ((with_reducible refine' ex_var (i := 1) (x := "_law_most") ?h ?g ?q); (case h => exact At.of rfl rfl a_L_book_1); (case g => rfl))
  | ((with_reducible refine' ex_var (i := 2) (x := "_law_far") ?h ?g ?q); (case h => exact At.of rfl rfl a_L_book_2); (case g => rfl))
  | ((with_reducible refine' ex_var (i := 3) (x := "_law_found") ?h ?g ?q); (case h => exact At.of rfl rfl a_L_book_3); (case g => rfl))
  | ((with_reducible refine' ex_var (i := 4) (x := "_law_number") ?h ?g ?q); (case h => exact At.of rfl rfl a_L_book_4); (case g => rfl))
  | ((with_reducible refine' ex_var (i := 5) (x := "_law_when") ?h ?g ?q); (case h => exact At.of rfl rfl a_L_book_5); (case g => rfl))
  | ((with_reducible refine' ex_var (i := 6) (x := "_law_until") ?h ?g ?q); (case h => exact At.of rfl rfl a_L_book_6); (case g => rfl))
  | ((with_reducible refine' ex_var (i := 7) (x := "_law_wants") ?h ?g ?q); (case h => exact At.of rfl rfl a_L_book_7); (case g => rfl))
  | ((with_reducible refine sx_set (i := 0) (x := "_law_row") ?h ?s ?q); (case h => exact Lc.of sc_L_book.nd rfl rfl (.inl rfl) a_L_book_0); (case s => rfl))
  | ((with_reducible refine gx_name (i := 0) (x := "_law_row") ?h ?q); (case h => exact Lc.of sc_L_book.nd rfl rfl (.inl rfl) a_L_book_0))
  | ((with_reducible refine sx_set (i := 1) (x := "_law_most") ?h ?s ?q); (case h => exact Lc.of sc_L_book.nd rfl rfl (.inl rfl) a_L_book_1); (case s => rfl))
  | ((with_reducible refine gx_name (i := 1) (x := "_law_most") ?h ?q); (case h => exact Lc.of sc_L_book.nd rfl rfl (.inl rfl) a_L_book_1))
  | ((with_reducible refine sx_set (i := 2) (x := "_law_far") ?h ?s ?q); (case h => exact Lc.of sc_L_book.nd rfl rfl (.inl rfl) a_L_book_2); (case s => rfl))
  | ((with_reducible refine gx_name (i := 2) (x := "_law_far") ?h ?q); (case h => exact Lc.of sc_L_book.nd rfl rfl (.inl rfl) a_L_book_2))
  | ((with_reducible refine sx_set (i := 3) (x := "_law_found") ?h ?s ?q); (case h => exact Lc.of sc_L_book.nd rfl rfl (.inl rfl) a_L_book_3); (case s => rfl))
  | ((with_reducible refine gx_name (i := 3) (x := "_law_found") ?h ?q); (case h => exact Lc.of sc_L_book.nd rfl rfl (.inl rfl) a_L_book_3))
  | ((with_reducible refine sx_set (i := 4) (x := "_law_number") ?h ?s ?q); (case h => exact Lc.of sc_L_book.nd rfl rfl (.inl rfl) a_L_book_4); (case s => rfl))
  | ((with_reducible refine gx_name (i := 4) (x := "_law_number") ?h ?q); (case h => exact Lc.of sc_L_book.nd rfl rfl (.inl rfl) a_L_book_4))
  | ((with_reducible refine sx_set (i := 5) (x := "_law_when") ?h ?s ?q); (case h => exact Lc.of sc_L_book.nd rfl rfl (.inl rfl) a_L_book_5); (case s => rfl))
  | ((with_reducible refine gx_name (i := 5) (x := "_law_when") ?h ?q); (case h => exact Lc.of sc_L_book.nd rfl rfl (.inl rfl) a_L_book_5))
  | ((with_reducible refine sx_set (i := 6) (x := "_law_until") ?h ?s ?q); (case h => exact Lc.of sc_L_book.nd rfl rfl (.inl rfl) a_L_book_6); (case s => rfl))
  | ((with_reducible refine gx_name (i := 6) (x := "_law_until") ?h ?q); (case h => exact Lc.of sc_L_book.nd rfl rfl (.inl rfl) a_L_book_6))
  | ((with_reducible refine sx_set (i := 7) (x := "_law_wants") ?h ?s ?q); (case h => exact Lc.of sc_L_book.nd rfl rfl (.inl rfl) a_L_book_7); (case s => rfl))
  | ((with_reducible refine gx_name (i := 7) (x := "_law_wants") ?h ?q); (case h => exact Lc.of sc_L_book.nd rfl rfl (.inl rfl) a_L_book_7)))
local macro_rules | `(tactic| wtm_at "vb L_book") => `(tactic| first
  | ((with_reducible refine' ex_var (i := 0) (x := "_law_row") ?h ?g ?q); (case h => exact At.b rfl (by first | exact Or.inl rfl | exact Or.inr (Or.inl rfl) | exact Or.inr (Or.inr rfl))); (case g => rfl))
  | ((with_reducible refine' ex_var (i := 1) (x := "_law_most") ?h ?g ?q); (case h => exact At.b rfl (by first | exact Or.inl rfl | exact Or.inr (Or.inl rfl) | exact Or.inr (Or.inr rfl))); (case g => rfl))
  | ((with_reducible refine' ex_var (i := 2) (x := "_law_far") ?h ?g ?q); (case h => exact At.b rfl (by first | exact Or.inl rfl | exact Or.inr (Or.inl rfl) | exact Or.inr (Or.inr rfl))); (case g => rfl))
  | ((with_reducible refine' ex_var (i := 3) (x := "_law_found") ?h ?g ?q); (case h => exact At.b rfl (by first | exact Or.inl rfl | exact Or.inr (Or.inl rfl) | exact Or.inr (Or.inr rfl))); (case g => rfl))
  | ((with_reducible refine' ex_var (i := 4) (x := "_law_number") ?h ?g ?q); (case h => exact At.b rfl (by first | exact Or.inl rfl | exact Or.inr (Or.inl rfl) | exact Or.inr (Or.inr rfl))); (case g => rfl))
  | ((with_reducible refine' ex_var (i := 5) (x := "_law_when") ?h ?g ?q); (case h => exact At.b rfl (by first | exact Or.inl rfl | exact Or.inr (Or.inl rfl) | exact Or.inr (Or.inr rfl))); (case g => rfl))
  | ((with_reducible refine' ex_var (i := 6) (x := "_law_until") ?h ?g ?q); (case h => exact At.b rfl (by first | exact Or.inl rfl | exact Or.inr (Or.inl rfl) | exact Or.inr (Or.inr rfl))); (case g => rfl))
  | ((with_reducible refine' ex_var (i := 7) (x := "_law_wants") ?h ?g ?q); (case h => exact At.b rfl (by first | exact Or.inl rfl | exact Or.inr (Or.inl rfl) | exact Or.inr (Or.inr rfl))); (case g => rfl))
  | ((with_reducible refine' ex_var (i := 8) (x := "_law_one") ?h ?g ?q); (case h => exact At.b rfl (by first | exact Or.inl rfl | exact Or.inr (Or.inl rfl) | exact Or.inr (Or.inr rfl))); (case g => rfl)))
local macro_rules | `(tactic| wtm_at "w L_book") => `(tactic| repeat (first | wtm_at "v L_book" | wtm_at "e" | wtm_at "ei" | wtm_at "c"))
local macro_rules | `(tactic| wtm_at "wb L_book") => `(tactic| repeat (first | wtm_at "vb L_book" | wtm_at "e" | wtm_at "cb"))
local macro_rules | `(tactic| wtm_at "g L_book") => `(tactic| repeat (first | wtm_at "v L_book" | wtm_at "e2" | wtm_at "e" | wtm_at "ei" | wtm_at "c"))
local macro_rules | `(tactic| wtm_at "gb L_book") => `(tactic| repeat (first | wtm_at "vb L_book" | wtm_at "e2" | wtm_at "e" | wtm_at "cb"))
local macro_rules | `(tactic| wtm_at "h L_book") => `(tactic| repeat (first | wtm_at "v L_book" | wtm_at "e2" | wtm_at "e" | wtm_at "c"))
local macro_rules | `(tactic| wtm_at "lc L_book 0") => `(tactic| refine' ex_lc (own := [("_law_one", 8)]) (t := .inl 8)  rfl sc_L_book.nd (blkOk_by (N := n_L_book) (sc := defScope s_L_book) (by decide +kernel)) (by decide) (fun _ _ _ _ _ => pg_name (i := 8) sc_L_book.nd rfl (Or.inl rfl)) (fun _ => rfl) ?_)
local macro_rules | `(tactic| wtm_at "lcM L_book 0") => `(tactic| refine' ex_lcM (own := [("_law_one", 8)]) (t := .inl 8)  rfl sc_L_book.nd (blkOk_by (N := n_L_book) (sc := defScope s_L_book) (by decide +kernel)) (by decide) (fun _ _ _ _ _ => pg_name (i := 8) sc_L_book.nd rfl (Or.inl rfl)) (fun _ => rfl) ?_)
local macro_rules | `(tactic| wtm_at "lcp L_book 0") => `(tactic| refine' ex_lcp (own := [("_law_one", 8)]) (t := .inl 8) ?f rfl sc_L_book.nd (blkOk_by (N := n_L_book) (sc := defScope s_L_book) (by decide +kernel)) (by decide) (fun _ _ _ _ _ => pg_name (i := 8) sc_L_book.nd rfl (Or.inl rfl)) (fun _ => rfl) ?_)
local macro_rules | `(tactic| wtm_at "lcpM L_book 0") => `(tactic| refine' ex_lcpM (own := [("_law_one", 8)]) (t := .inl 8) ?f rfl sc_L_book.nd (blkOk_by (N := n_L_book) (sc := defScope s_L_book) (by decide +kernel)) (by decide) (fun _ _ _ _ _ => pg_name (i := 8) sc_L_book.nd rfl (Or.inl rfl)) (fun _ => rfl) ?_)
abbrev X_L_book (P : Program) (w : World) (K : PySem.W.Frag) (mg : Str → Option Value) (base : Heap) (f : Addr) (cdv : Value) (A : Around) (outer : List Env) (s : Shared) (H : Hp) (E : XK) : Cx := (cxOf CX0 P w K mg base n_L_book "_law_book" (defScope s_L_book) f cdv A outer s H E).nox
abbrev s_L_all_done : Stmt := top 41
abbrev n_L_all_done : List Str := ["_law_book_here", "_law_delay", "_law_sends", "_law_lost", "_law_craft", "_law_state", "_law_flown", "_law_beat", "_law_k", "_law_when", "_law_letter"]
theorem sc_L_all_done : FnScope n_L_all_done ["_law_book_here", "_law_delay", "_law_sends", "_law_lost"] (defScope s_L_all_done) := ⟨rfl, rfl, rfl, by decide +kernel, rfl, by decide +kernel, by decide +kernel⟩
theorem a_L_all_done_0 : atB n_L_all_done (defScope s_L_all_done) 0 "_law_book_here" = true := by decide +kernel
theorem a_L_all_done_1 : atB n_L_all_done (defScope s_L_all_done) 1 "_law_delay" = true := by decide +kernel
theorem a_L_all_done_2 : atB n_L_all_done (defScope s_L_all_done) 2 "_law_sends" = true := by decide +kernel
theorem a_L_all_done_3 : atB n_L_all_done (defScope s_L_all_done) 3 "_law_lost" = true := by decide +kernel
theorem a_L_all_done_4 : atB n_L_all_done (defScope s_L_all_done) 4 "_law_craft" = true := by decide +kernel
theorem a_L_all_done_5 : atB n_L_all_done (defScope s_L_all_done) 5 "_law_state" = true := by decide +kernel
theorem a_L_all_done_6 : atB n_L_all_done (defScope s_L_all_done) 6 "_law_flown" = true := by decide +kernel
theorem a_L_all_done_7 : atB n_L_all_done (defScope s_L_all_done) 7 "_law_beat" = true := by decide +kernel
local macro_rules | `(tactic| wtm_at "v L_all_done") => `(tactic| first
  | ((with_reducible refine' ex_var (i := 0) (x := "_law_book_here") ?h ?g ?q); (case h => exact At.of rfl rfl a_L_all_done_0); (case g => rfl))
  | ((with_reducible refine' ex_var (i := 1) (x := "_law_delay") ?h ?g ?q); (case h => exact At.of rfl rfl a_L_all_done_1); (case g => rfl))
  | ((with_reducible refine' ex_var (i := 2) (x := "_law_sends") ?h ?g ?q); (case h => exact At.of rfl rfl a_L_all_done_2); (case g => rfl))
  | ((with_reducible refine' ex_var (i := 3) (x := "_law_lost") ?h ?g ?q); (case h => exact At.of rfl rfl a_L_all_done_3); (case g => rfl))
  | ((with_reducible refine' ex_var (i := 4) (x := "_law_craft") ?h ?g ?q); (case h => exact At.of rfl rfl a_L_all_done_4); (case g => rfl))
  | ((with_reducible refine' ex_var (i := 5) (x := "_law_state") ?h ?g ?q); (case h => exact At.of rfl rfl a_L_all_done_5); (case g => rfl))
  | ((with_reducible refine' ex_var (i := 6) (x := "_law_flown") ?h ?g ?q); (case h => exact At.of rfl rfl a_L_all_done_6); (case g => rfl))
  | ((with_reducible refine' ex_var (i := 7) (x := "_law_beat") ?h ?g ?q); (case h => exact At.of rfl rfl a_L_all_done_7); (case g => rfl))
  | ((with_reducible refine sx_set (i := 0) (x := "_law_book_here") ?h ?s ?q); (case h => exact Lc.of sc_L_all_done.nd rfl rfl (.inl rfl) a_L_all_done_0); (case s => rfl))
  | ((with_reducible refine gx_name (i := 0) (x := "_law_book_here") ?h ?q); (case h => exact Lc.of sc_L_all_done.nd rfl rfl (.inl rfl) a_L_all_done_0))
  | ((with_reducible refine sx_set (i := 1) (x := "_law_delay") ?h ?s ?q); (case h => exact Lc.of sc_L_all_done.nd rfl rfl (.inl rfl) a_L_all_done_1); (case s => rfl))
  | ((with_reducible refine gx_name (i := 1) (x := "_law_delay") ?h ?q); (case h => exact Lc.of sc_L_all_done.nd rfl rfl (.inl rfl) a_L_all_done_1))
  | ((with_reducible refine sx_set (i := 2) (x := "_law_sends") ?h ?s ?q); (case h => exact Lc.of sc_L_all_done.nd rfl rfl (.inl rfl) a_L_all_done_2); (case s => rfl))
  | ((with_reducible refine gx_name (i := 2) (x := "_law_sends") ?h ?q); (case h => exact Lc.of sc_L_all_done.nd rfl rfl (.inl rfl) a_L_all_done_2))
  | ((with_reducible refine sx_set (i := 3) (x := "_law_lost") ?h ?s ?q); (case h => exact Lc.of sc_L_all_done.nd rfl rfl (.inl rfl) a_L_all_done_3); (case s => rfl))
  | ((with_reducible refine gx_name (i := 3) (x := "_law_lost") ?h ?q); (case h => exact Lc.of sc_L_all_done.nd rfl rfl (.inl rfl) a_L_all_done_3))
  | ((with_reducible refine sx_set (i := 4) (x := "_law_craft") ?h ?s ?q); (case h => exact Lc.of sc_L_all_done.nd rfl rfl (.inl rfl) a_L_all_done_4); (case s => rfl))
  | ((with_reducible refine gx_name (i := 4) (x := "_law_craft") ?h ?q); (case h => exact Lc.of sc_L_all_done.nd rfl rfl (.inl rfl) a_L_all_done_4))
  | ((with_reducible refine sx_set (i := 5) (x := "_law_state") ?h ?s ?q); (case h => exact Lc.of sc_L_all_done.nd rfl rfl (.inl rfl) a_L_all_done_5); (case s => rfl))
  | ((with_reducible refine gx_name (i := 5) (x := "_law_state") ?h ?q); (case h => exact Lc.of sc_L_all_done.nd rfl rfl (.inl rfl) a_L_all_done_5))
  | ((with_reducible refine sx_set (i := 6) (x := "_law_flown") ?h ?s ?q); (case h => exact Lc.of sc_L_all_done.nd rfl rfl (.inl rfl) a_L_all_done_6); (case s => rfl))
  | ((with_reducible refine gx_name (i := 6) (x := "_law_flown") ?h ?q); (case h => exact Lc.of sc_L_all_done.nd rfl rfl (.inl rfl) a_L_all_done_6))
  | ((with_reducible refine sx_set (i := 7) (x := "_law_beat") ?h ?s ?q); (case h => exact Lc.of sc_L_all_done.nd rfl rfl (.inl rfl) a_L_all_done_7); (case s => rfl))
  | ((with_reducible refine gx_name (i := 7) (x := "_law_beat") ?h ?q); (case h => exact Lc.of sc_L_all_done.nd rfl rfl (.inl rfl) a_L_all_done_7)))
local macro_rules | `(tactic| wtm_at "vb L_all_done") => `(tactic| first
  | ((with_reducible refine' ex_var (i := 0) (x := "_law_book_here") ?h ?g ?q); (case h => exact At.b rfl (by first | exact Or.inl rfl | exact Or.inr (Or.inl rfl) | exact Or.inr (Or.inr rfl))); (case g => rfl))
  | ((with_reducible refine' ex_var (i := 1) (x := "_law_delay") ?h ?g ?q); (case h => exact At.b rfl (by first | exact Or.inl rfl | exact Or.inr (Or.inl rfl) | exact Or.inr (Or.inr rfl))); (case g => rfl))
  | ((with_reducible refine' ex_var (i := 2) (x := "_law_sends") ?h ?g ?q); (case h => exact At.b rfl (by first | exact Or.inl rfl | exact Or.inr (Or.inl rfl) | exact Or.inr (Or.inr rfl))); (case g => rfl))
  | ((with_reducible refine' ex_var (i := 3) (x := "_law_lost") ?h ?g ?q); (case h => exact At.b rfl (by first | exact Or.inl rfl | exact Or.inr (Or.inl rfl) | exact Or.inr (Or.inr rfl))); (case g => rfl))
  | ((with_reducible refine' ex_var (i := 4) (x := "_law_craft") ?h ?g ?q); (case h => exact At.b rfl (by first | exact Or.inl rfl | exact Or.inr (Or.inl rfl) | exact Or.inr (Or.inr rfl))); (case g => rfl))
  | ((with_reducible refine' ex_var (i := 5) (x := "_law_state") ?h ?g ?q); (case h => exact At.b rfl (by first | exact Or.inl rfl | exact Or.inr (Or.inl rfl) | exact Or.inr (Or.inr rfl))); (case g => rfl))
  | ((with_reducible refine' ex_var (i := 6) (x := "_law_flown") ?h ?g ?q); (case h => exact At.b rfl (by first | exact Or.inl rfl | exact Or.inr (Or.inl rfl) | exact Or.inr (Or.inr rfl))); (case g => rfl))
  | ((with_reducible refine' ex_var (i := 7) (x := "_law_beat") ?h ?g ?q); (case h => exact At.b rfl (by first | exact Or.inl rfl | exact Or.inr (Or.inl rfl) | exact Or.inr (Or.inr rfl))); (case g => rfl))
  | ((with_reducible refine' ex_var (i := 8) (x := "_law_k") ?h ?g ?q); (case h => exact At.b rfl (by first | exact Or.inl rfl | exact Or.inr (Or.inl rfl) | exact Or.inr (Or.inr rfl))); (case g => rfl))
  | ((with_reducible refine' ex_var (i := 9) (x := "_law_when") ?h ?g ?q); (case h => exact At.b rfl (by first | exact Or.inl rfl | exact Or.inr (Or.inl rfl) | exact Or.inr (Or.inr rfl))); (case g => rfl))
  | ((with_reducible refine' ex_var (i := 10) (x := "_law_letter") ?h ?g ?q); (case h => exact At.b rfl (by first | exact Or.inl rfl | exact Or.inr (Or.inl rfl) | exact Or.inr (Or.inr rfl))); (case g => rfl)))
local macro_rules | `(tactic| wtm_at "w L_all_done") => `(tactic| repeat (first | wtm_at "v L_all_done" | wtm_at "e" | wtm_at "ei" | wtm_at "c"))
local macro_rules | `(tactic| wtm_at "wb L_all_done") => `(tactic| repeat (first | wtm_at "vb L_all_done" | wtm_at "e" | wtm_at "cb"))
local macro_rules | `(tactic| wtm_at "g L_all_done") => `(tactic| repeat (first | wtm_at "v L_all_done" | wtm_at "e2" | wtm_at "e" | wtm_at "ei" | wtm_at "c"))
local macro_rules | `(tactic| wtm_at "gb L_all_done") => `(tactic| repeat (first | wtm_at "vb L_all_done" | wtm_at "e2" | wtm_at "e" | wtm_at "cb"))
local macro_rules | `(tactic| wtm_at "h L_all_done") => `(tactic| repeat (first | wtm_at "v L_all_done" | wtm_at "e2" | wtm_at "e" | wtm_at "c"))
local macro_rules | `(tactic| wtm_at "lc L_all_done 0") => `(tactic| refine' ex_lc (own := [("_law_k", 8)]) (t := .inl 8)  rfl sc_L_all_done.nd (blkOk_by (N := n_L_all_done) (sc := defScope s_L_all_done) (by decide +kernel)) (by decide) (fun _ _ _ _ _ => pg_name (i := 8) sc_L_all_done.nd rfl (Or.inl rfl)) (fun _ => rfl) ?_)
local macro_rules | `(tactic| wtm_at "lcM L_all_done 0") => `(tactic| refine' ex_lcM (own := [("_law_k", 8)]) (t := .inl 8)  rfl sc_L_all_done.nd (blkOk_by (N := n_L_all_done) (sc := defScope s_L_all_done) (by decide +kernel)) (by decide) (fun _ _ _ _ _ => pg_name (i := 8) sc_L_all_done.nd rfl (Or.inl rfl)) (fun _ => rfl) ?_)
local macro_rules | `(tactic| wtm_at "lcp L_all_done 0") => `(tactic| refine' ex_lcp (own := [("_law_k", 8)]) (t := .inl 8) ?f rfl sc_L_all_done.nd (blkOk_by (N := n_L_all_done) (sc := defScope s_L_all_done) (by decide +kernel)) (by decide) (fun _ _ _ _ _ => pg_name (i := 8) sc_L_all_done.nd rfl (Or.inl rfl)) (fun _ => rfl) ?_)
local macro_rules | `(tactic| wtm_at "lcpM L_all_done 0") => `(tactic| refine' ex_lcpM (own := [("_law_k", 8)]) (t := .inl 8) ?f rfl sc_L_all_done.nd (blkOk_by (N := n_L_all_done) (sc := defScope s_L_all_done) (by decide +kernel)) (by decide) (fun _ _ _ _ _ => pg_name (i := 8) sc_L_all_done.nd rfl (Or.inl rfl)) (fun _ => rfl) ?_)
local macro_rules | `(tactic| wtm_at "slc L_all_done 0") => `(tactic| refine' sx_setLc (i := 6) (own := [("_law_k", 8)]) (t := .inl 8)  rfl sc_L_all_done.nd rfl rfl (sw_true rfl rfl rfl (by decide +kernel)) (blkOk_by (N := n_L_all_done) (sc := defScope s_L_all_done) (by decide +kernel)) (by decide) (fun _ _ _ _ _ => pg_name (i := 8) sc_L_all_done.nd rfl (Or.inl rfl)) (fun _ => rfl) ?_)
local macro_rules | `(tactic| wtm_at "slcM L_all_done 0") => `(tactic| refine' sx_setLcM (i := 6) (own := [("_law_k", 8)]) (t := .inl 8)  rfl sc_L_all_done.nd rfl rfl (sw_true rfl rfl rfl (by decide +kernel)) (blkOk_by (N := n_L_all_done) (sc := defScope s_L_all_done) (by decide +kernel)) (by decide) (fun _ _ _ _ _ => pg_name (i := 8) sc_L_all_done.nd rfl (Or.inl rfl)) (fun _ => rfl) ?_)
local macro_rules | `(tactic| wtm_at "slcp L_all_done 0") => `(tactic| refine' sx_setLcp (i := 6) (own := [("_law_k", 8)]) (t := .inl 8) ?f rfl sc_L_all_done.nd rfl rfl (sw_true rfl rfl rfl (by decide +kernel)) (blkOk_by (N := n_L_all_done) (sc := defScope s_L_all_done) (by decide +kernel)) (by decide) (fun _ _ _ _ _ => pg_name (i := 8) sc_L_all_done.nd rfl (Or.inl rfl)) (fun _ => rfl) ?_)
local macro_rules | `(tactic| wtm_at "lc L_all_done 1") => `(tactic| refine' ex_lc (own := [("_law_when", 9), ("_law_letter", 10)]) (t := .inr [9, 10])  rfl sc_L_all_done.nd (blkOk_by (N := n_L_all_done) (sc := defScope s_L_all_done) (by decide +kernel)) (by decide) (fun _ _ _ _ _ => pg_tup rfl (pgs_cons (pg_name (i := 9) sc_L_all_done.nd rfl (Or.inl rfl)) (pgs_cons (pg_name (i := 10) sc_L_all_done.nd rfl (Or.inl rfl)) pgs_nil))) (fun _ => rfl) ?_)
local macro_rules | `(tactic| wtm_at "lcM L_all_done 1") => `(tactic| refine' ex_lcM (own := [("_law_when", 9), ("_law_letter", 10)]) (t := .inr [9, 10])  rfl sc_L_all_done.nd (blkOk_by (N := n_L_all_done) (sc := defScope s_L_all_done) (by decide +kernel)) (by decide) (fun _ _ _ _ _ => pg_tup rfl (pgs_cons (pg_name (i := 9) sc_L_all_done.nd rfl (Or.inl rfl)) (pgs_cons (pg_name (i := 10) sc_L_all_done.nd rfl (Or.inl rfl)) pgs_nil))) (fun _ => rfl) ?_)
local macro_rules | `(tactic| wtm_at "lcp L_all_done 1") => `(tactic| refine' ex_lcp (own := [("_law_when", 9), ("_law_letter", 10)]) (t := .inr [9, 10]) ?f rfl sc_L_all_done.nd (blkOk_by (N := n_L_all_done) (sc := defScope s_L_all_done) (by decide +kernel)) (by decide) (fun _ _ _ _ _ => pg_tup rfl (pgs_cons (pg_name (i := 9) sc_L_all_done.nd rfl (Or.inl rfl)) (pgs_cons (pg_name (i := 10) sc_L_all_done.nd rfl (Or.inl rfl)) pgs_nil))) (fun _ => rfl) ?_)
local macro_rules | `(tactic| wtm_at "lcpM L_all_done 1") => `(tactic| refine' ex_lcpM (own := [("_law_when", 9), ("_law_letter", 10)]) (t := .inr [9, 10]) ?f rfl sc_L_all_done.nd (blkOk_by (N := n_L_all_done) (sc := defScope s_L_all_done) (by decide +kernel)) (by decide) (fun _ _ _ _ _ => pg_tup rfl (pgs_cons (pg_name (i := 9) sc_L_all_done.nd rfl (Or.inl rfl)) (pgs_cons (pg_name (i := 10) sc_L_all_done.nd rfl (Or.inl rfl)) pgs_nil))) (fun _ => rfl) ?_)
abbrev X_L_all_done (P : Program) (w : World) (K : PySem.W.Frag) (mg : Str → Option Value) (base : Heap) (f : Addr) (cdv : Value) (A : Around) (outer : List Env) (s : Shared) (H : Hp) (E : XK) : Cx := (cxOf CX0 P w K mg base n_L_all_done "_law_all_done" (defScope s_L_all_done) f cdv A outer s H E).nox
abbrev s_law : Stmt := top 42
abbrev n_law : List Str := ["_law_script", "_law_row", "_law_turn", "_law_book_here", "_law_delay", "_law_sends", "_law_beat", "_law_k", "_law_most", "_law_told", "_law_again", "_law_some", "_law_is_less", "_law_one"]
theorem sc_law : FnScope n_law ["_law_script"] (defScope s_law) := ⟨rfl, rfl, rfl, by decide +kernel, rfl, by decide +kernel, by decide +kernel⟩
theorem a_law_0 : atB n_law (defScope s_law) 0 "_law_script" = true := by decide +kernel
theorem a_law_1 : atB n_law (defScope s_law) 1 "_law_row" = true := by decide +kernel
theorem a_law_2 : atB n_law (defScope s_law) 2 "_law_turn" = true := by decide +kernel
theorem a_law_3 : atB n_law (defScope s_law) 3 "_law_book_here" = true := by decide +kernel
theorem a_law_4 : atB n_law (defScope s_law) 4 "_law_delay" = true := by decide +kernel
theorem a_law_5 : atB n_law (defScope s_law) 5 "_law_sends" = true := by decide +kernel
theorem a_law_6 : atB n_law (defScope s_law) 6 "_law_beat" = true := by decide +kernel
theorem a_law_7 : atB n_law (defScope s_law) 7 "_law_k" = true := by decide +kernel
theorem a_law_8 : atB n_law (defScope s_law) 8 "_law_most" = true := by decide +kernel
theorem a_law_9 : atB n_law (defScope s_law) 9 "_law_told" = true := by decide +kernel
theorem a_law_10 : atB n_law (defScope s_law) 10 "_law_again" = true := by decide +kernel
theorem a_law_11 : atB n_law (defScope s_law) 11 "_law_some" = true := by decide +kernel
theorem a_law_12 : atB n_law (defScope s_law) 12 "_law_is_less" = true := by decide +kernel
local macro_rules | `(tactic| wtm_at "v law") => `(tactic| first
  | ((with_reducible refine' ex_var (i := 0) (x := "_law_script") ?h ?g ?q); (case h => exact At.of rfl rfl a_law_0); (case g => rfl))
  | ((with_reducible refine' ex_var (i := 1) (x := "_law_row") ?h ?g ?q); (case h => exact At.of rfl rfl a_law_1); (case g => rfl))
  | ((with_reducible refine' ex_var (i := 2) (x := "_law_turn") ?h ?g ?q); (case h => exact At.of rfl rfl a_law_2); (case g => rfl))
  | ((with_reducible refine' ex_var (i := 3) (x := "_law_book_here") ?h ?g ?q); (case h => exact At.of rfl rfl a_law_3); (case g => rfl))
  | ((with_reducible refine' ex_var (i := 4) (x := "_law_delay") ?h ?g ?q); (case h => exact At.of rfl rfl a_law_4); (case g => rfl))
  | ((with_reducible refine' ex_var (i := 5) (x := "_law_sends") ?h ?g ?q); (case h => exact At.of rfl rfl a_law_5); (case g => rfl))
  | ((with_reducible refine' ex_var (i := 6) (x := "_law_beat") ?h ?g ?q); (case h => exact At.of rfl rfl a_law_6); (case g => rfl))
  | ((with_reducible refine' ex_var (i := 7) (x := "_law_k") ?h ?g ?q); (case h => exact At.of rfl rfl a_law_7); (case g => rfl))
  | ((with_reducible refine' ex_var (i := 8) (x := "_law_most") ?h ?g ?q); (case h => exact At.of rfl rfl a_law_8); (case g => rfl))
  | ((with_reducible refine' ex_var (i := 9) (x := "_law_told") ?h ?g ?q); (case h => exact At.of rfl rfl a_law_9); (case g => rfl))
  | ((with_reducible refine' ex_var (i := 10) (x := "_law_again") ?h ?g ?q); (case h => exact At.of rfl rfl a_law_10); (case g => rfl))
  | ((with_reducible refine' ex_var (i := 11) (x := "_law_some") ?h ?g ?q); (case h => exact At.of rfl rfl a_law_11); (case g => rfl))
  | ((with_reducible refine' ex_var (i := 12) (x := "_law_is_less") ?h ?g ?q); (case h => exact At.of rfl rfl a_law_12); (case g => rfl))
  | ((with_reducible refine sx_set (i := 0) (x := "_law_script") ?h ?s ?q); (case h => exact Lc.of sc_law.nd rfl rfl (.inl rfl) a_law_0); (case s => rfl))
  | ((with_reducible refine gx_name (i := 0) (x := "_law_script") ?h ?q); (case h => exact Lc.of sc_law.nd rfl rfl (.inl rfl) a_law_0))
  | ((with_reducible refine sx_set (i := 1) (x := "_law_row") ?h ?s ?q); (case h => exact Lc.of sc_law.nd rfl rfl (.inl rfl) a_law_1); (case s => rfl))
  | ((with_reducible refine gx_name (i := 1) (x := "_law_row") ?h ?q); (case h => exact Lc.of sc_law.nd rfl rfl (.inl rfl) a_law_1))
  | ((with_reducible refine sx_set (i := 2) (x := "_law_turn") ?h ?s ?q); (case h => exact Lc.of sc_law.nd rfl rfl (.inl rfl) a_law_2); (case s => rfl))
  | ((with_reducible refine gx_name (i := 2) (x := "_law_turn") ?h ?q); (case h => exact Lc.of sc_law.nd rfl rfl (.inl rfl) a_law_2))
  | ((with_reducible refine sx_set (i := 3) (x := "_law_book_here") ?h ?s ?q); (case h => exact Lc.of sc_law.nd rfl rfl (.inl rfl) a_law_3); (case s => rfl))
  | ((with_reducible refine gx_name (i := 3) (x := "_law_book_here") ?h ?q); (case h => exact Lc.of sc_law.nd rfl rfl (.inl rfl) a_law_3))
  | ((with_reducible refine sx_set (i := 4) (x := "_law_delay") ?h ?s ?q); (case h => exact Lc.of sc_law.nd rfl rfl (.inl rfl) a_law_4); (case s => rfl))
  | ((with_reducible refine gx_name (i := 4) (x := "_law_delay") ?h ?q); (case h => exact Lc.of sc_law.nd rfl rfl (.inl rfl) a_law_4))
  | ((with_reducible refine sx_set (i := 5) (x := "_law_sends") ?h ?s ?q); (case h => exact Lc.of sc_law.nd rfl rfl (.inl rfl) a_law_5); (case s => rfl))
  | ((with_reducible refine gx_name (i := 5) (x := "_law_sends") ?h ?q); (case h => exact Lc.of sc_law.nd rfl rfl (.inl rfl) a_law_5))
  | ((with_reducible refine sx_set (i := 6) (x := "_law_beat") ?h ?s ?q); (case h => exact Lc.of sc_law.nd rfl rfl (.inl rfl) a_law_6); (case s => rfl))
  | ((with_reducible refine gx_name (i := 6) (x := "_law_beat") ?h ?q); (case h => exact Lc.of sc_law.nd rfl rfl (.inl rfl) a_law_6))
  | ((with_reducible refine sx_set (i := 7) (x := "_law_k") ?h ?s ?q); (case h => exact Lc.of sc_law.nd rfl rfl (.inl rfl) a_law_7); (case s => rfl))
  | ((with_reducible refine gx_name (i := 7) (x := "_law_k") ?h ?q); (case h => exact Lc.of sc_law.nd rfl rfl (.inl rfl) a_law_7))
  | ((with_reducible refine sx_set (i := 8) (x := "_law_most") ?h ?s ?q); (case h => exact Lc.of sc_law.nd rfl rfl (.inl rfl) a_law_8); (case s => rfl))
  | ((with_reducible refine gx_name (i := 8) (x := "_law_most") ?h ?q); (case h => exact Lc.of sc_law.nd rfl rfl (.inl rfl) a_law_8))
  | ((with_reducible refine sx_set (i := 9) (x := "_law_told") ?h ?s ?q); (case h => exact Lc.of sc_law.nd rfl rfl (.inl rfl) a_law_9); (case s => rfl))
  | ((with_reducible refine gx_name (i := 9) (x := "_law_told") ?h ?q); (case h => exact Lc.of sc_law.nd rfl rfl (.inl rfl) a_law_9))
  | ((with_reducible refine sx_set (i := 10) (x := "_law_again") ?h ?s ?q); (case h => exact Lc.of sc_law.nd rfl rfl (.inl rfl) a_law_10); (case s => rfl))
  | ((with_reducible refine gx_name (i := 10) (x := "_law_again") ?h ?q); (case h => exact Lc.of sc_law.nd rfl rfl (.inl rfl) a_law_10))
  | ((with_reducible refine sx_set (i := 11) (x := "_law_some") ?h ?s ?q); (case h => exact Lc.of sc_law.nd rfl rfl (.inl rfl) a_law_11); (case s => rfl))
  | ((with_reducible refine gx_name (i := 11) (x := "_law_some") ?h ?q); (case h => exact Lc.of sc_law.nd rfl rfl (.inl rfl) a_law_11))
  | ((with_reducible refine sx_set (i := 12) (x := "_law_is_less") ?h ?s ?q); (case h => exact Lc.of sc_law.nd rfl rfl (.inl rfl) a_law_12); (case s => rfl))
  | ((with_reducible refine gx_name (i := 12) (x := "_law_is_less") ?h ?q); (case h => exact Lc.of sc_law.nd rfl rfl (.inl rfl) a_law_12)))
local macro_rules | `(tactic| wtm_at "vb law") => `(tactic| first
  | ((with_reducible refine' ex_var (i := 0) (x := "_law_script") ?h ?g ?q); (case h => exact At.b rfl (by first | exact Or.inl rfl | exact Or.inr (Or.inl rfl) | exact Or.inr (Or.inr rfl))); (case g => rfl))
  | ((with_reducible refine' ex_var (i := 1) (x := "_law_row") ?h ?g ?q); (case h => exact At.b rfl (by first | exact Or.inl rfl | exact Or.inr (Or.inl rfl) | exact Or.inr (Or.inr rfl))); (case g => rfl))
  | ((with_reducible refine' ex_var (i := 2) (x := "_law_turn") ?h ?g ?q); (case h => exact At.b rfl (by first | exact Or.inl rfl | exact Or.inr (Or.inl rfl) | exact Or.inr (Or.inr rfl))); (case g => rfl))
  | ((with_reducible refine' ex_var (i := 3) (x := "_law_book_here") ?h ?g ?q); (case h => exact At.b rfl (by first | exact Or.inl rfl | exact Or.inr (Or.inl rfl) | exact Or.inr (Or.inr rfl))); (case g => rfl))
  | ((with_reducible refine' ex_var (i := 4) (x := "_law_delay") ?h ?g ?q); (case h => exact At.b rfl (by first | exact Or.inl rfl | exact Or.inr (Or.inl rfl) | exact Or.inr (Or.inr rfl))); (case g => rfl))
  | ((with_reducible refine' ex_var (i := 5) (x := "_law_sends") ?h ?g ?q); (case h => exact At.b rfl (by first | exact Or.inl rfl | exact Or.inr (Or.inl rfl) | exact Or.inr (Or.inr rfl))); (case g => rfl))
  | ((with_reducible refine' ex_var (i := 6) (x := "_law_beat") ?h ?g ?q); (case h => exact At.b rfl (by first | exact Or.inl rfl | exact Or.inr (Or.inl rfl) | exact Or.inr (Or.inr rfl))); (case g => rfl))
  | ((with_reducible refine' ex_var (i := 7) (x := "_law_k") ?h ?g ?q); (case h => exact At.b rfl (by first | exact Or.inl rfl | exact Or.inr (Or.inl rfl) | exact Or.inr (Or.inr rfl))); (case g => rfl))
  | ((with_reducible refine' ex_var (i := 8) (x := "_law_most") ?h ?g ?q); (case h => exact At.b rfl (by first | exact Or.inl rfl | exact Or.inr (Or.inl rfl) | exact Or.inr (Or.inr rfl))); (case g => rfl))
  | ((with_reducible refine' ex_var (i := 9) (x := "_law_told") ?h ?g ?q); (case h => exact At.b rfl (by first | exact Or.inl rfl | exact Or.inr (Or.inl rfl) | exact Or.inr (Or.inr rfl))); (case g => rfl))
  | ((with_reducible refine' ex_var (i := 10) (x := "_law_again") ?h ?g ?q); (case h => exact At.b rfl (by first | exact Or.inl rfl | exact Or.inr (Or.inl rfl) | exact Or.inr (Or.inr rfl))); (case g => rfl))
  | ((with_reducible refine' ex_var (i := 11) (x := "_law_some") ?h ?g ?q); (case h => exact At.b rfl (by first | exact Or.inl rfl | exact Or.inr (Or.inl rfl) | exact Or.inr (Or.inr rfl))); (case g => rfl))
  | ((with_reducible refine' ex_var (i := 12) (x := "_law_is_less") ?h ?g ?q); (case h => exact At.b rfl (by first | exact Or.inl rfl | exact Or.inr (Or.inl rfl) | exact Or.inr (Or.inr rfl))); (case g => rfl))
  | ((with_reducible refine' ex_var (i := 13) (x := "_law_one") ?h ?g ?q); (case h => exact At.b rfl (by first | exact Or.inl rfl | exact Or.inr (Or.inl rfl) | exact Or.inr (Or.inr rfl))); (case g => rfl)))
local macro_rules | `(tactic| wtm_at "w law") => `(tactic| repeat (first | wtm_at "v law" | wtm_at "e" | wtm_at "ei" | wtm_at "c"))
local macro_rules | `(tactic| wtm_at "wb law") => `(tactic| repeat (first | wtm_at "vb law" | wtm_at "e" | wtm_at "cb"))
local macro_rules | `(tactic| wtm_at "g law") => `(tactic| repeat (first | wtm_at "v law" | wtm_at "e2" | wtm_at "e" | wtm_at "ei" | wtm_at "c"))
local macro_rules | `(tactic| wtm_at "gb law") => `(tactic| repeat (first | wtm_at "vb law" | wtm_at "e2" | wtm_at "e" | wtm_at "cb"))
local macro_rules | `(tactic| wtm_at "h law") => `(tactic| repeat (first | wtm_at "v law" | wtm_at "e2" | wtm_at "e" | wtm_at "c"))
local macro_rules | `(tactic| wtm_at "lc law 0") => `(tactic| refine' ex_lc (own := [("_law_one", 13)]) (t := .inl 13)  rfl sc_law.nd (blkOk_by (N := n_law) (sc := defScope s_law) (by decide +kernel)) (by decide) (fun _ _ _ _ _ => pg_name (i := 13) sc_law.nd rfl (Or.inl rfl)) (fun _ => rfl) ?_)
local macro_rules | `(tactic| wtm_at "lcM law 0") => `(tactic| refine' ex_lcM (own := [("_law_one", 13)]) (t := .inl 13)  rfl sc_law.nd (blkOk_by (N := n_law) (sc := defScope s_law) (by decide +kernel)) (by decide) (fun _ _ _ _ _ => pg_name (i := 13) sc_law.nd rfl (Or.inl rfl)) (fun _ => rfl) ?_)
local macro_rules | `(tactic| wtm_at "lcp law 0") => `(tactic| refine' ex_lcp (own := [("_law_one", 13)]) (t := .inl 13) ?f rfl sc_law.nd (blkOk_by (N := n_law) (sc := defScope s_law) (by decide +kernel)) (by decide) (fun _ _ _ _ _ => pg_name (i := 13) sc_law.nd rfl (Or.inl rfl)) (fun _ => rfl) ?_)
local macro_rules | `(tactic| wtm_at "lcpM law 0") => `(tactic| refine' ex_lcpM (own := [("_law_one", 13)]) (t := .inl 13) ?f rfl sc_law.nd (blkOk_by (N := n_law) (sc := defScope s_law) (by decide +kernel)) (by decide) (fun _ _ _ _ _ => pg_name (i := 13) sc_law.nd rfl (Or.inl rfl)) (fun _ => rfl) ?_)
local macro_rules | `(tactic| wtm_at "lc law 1") => `(tactic| refine' ex_lc (own := [("_law_k", 7)]) (t := .inl 7)  rfl sc_law.nd (blkOk_by (N := n_law) (sc := defScope s_law) (by decide +kernel)) (by decide) (fun _ _ _ _ _ => pg_name (i := 7) sc_law.nd rfl (Or.inl rfl)) (fun _ => rfl) ?_)
local macro_rules | `(tactic| wtm_at "lcM law 1") => `(tactic| refine' ex_lcM (own := [("_law_k", 7)]) (t := .inl 7)  rfl sc_law.nd (blkOk_by (N := n_law) (sc := defScope s_law) (by decide +kernel)) (by decide) (fun _ _ _ _ _ => pg_name (i := 7) sc_law.nd rfl (Or.inl rfl)) (fun _ => rfl) ?_)
local macro_rules | `(tactic| wtm_at "lcp law 1") => `(tactic| refine' ex_lcp (own := [("_law_k", 7)]) (t := .inl 7) ?f rfl sc_law.nd (blkOk_by (N := n_law) (sc := defScope s_law) (by decide +kernel)) (by decide) (fun _ _ _ _ _ => pg_name (i := 7) sc_law.nd rfl (Or.inl rfl)) (fun _ => rfl) ?_)
local macro_rules | `(tactic| wtm_at "lcpM law 1") => `(tactic| refine' ex_lcpM (own := [("_law_k", 7)]) (t := .inl 7) ?f rfl sc_law.nd (blkOk_by (N := n_law) (sc := defScope s_law) (by decide +kernel)) (by decide) (fun _ _ _ _ _ => pg_name (i := 7) sc_law.nd rfl (Or.inl rfl)) (fun _ => rfl) ?_)
abbrev X_law (P : Program) (w : World) (K : PySem.W.Frag) (mg : Str → Option Value) (base : Heap) (f : Addr) (cdv : Value) (A : Around) (outer : List Env) (s : Shared) (H : Hp) (E : XK) : Cx := (cxOf CX0 P w K mg base n_law "law" (defScope s_law) f cdv A outer s H E).nox

/-! ### numbers -/
def isNum : D → Int → Int → Bool
  | .int i, lo, hi => decide (lo ≤ i) && decide (i ≤ hi)
  | _, _, _ => false
def spIsNumber : DSp := fun ds M Q => ∃ d lo hi, ds = [d, .int lo, .int hi] ∧ d.tyd = true ∧ Q (.bl (isNum d lo hi)) M
section
variable {P : Program} {w : World} {K : PySem.W.Frag} {mg : Str → Option Value} {base : Heap}
theorem ok_is_number {f : Addr} {fd : FuncData} (Fn : Fun K "is_number" "is_number" s_is_number f fd) (zi : mg "isinstance" = none) (zn : mg "int" = none) (zb : mg "bool" = none) : FnOk P w K mg base CX0 1 f fd ["part", "low", "high"] (lift K spIsNumber) := by
  refine fun_ok Fn sc_is_number (fun ds M Q ⟨_, _, _, e, _⟩ => by rw [e]; rfl) fun cdv A outer s H E hr ds M Q h B => ?_
  obtain ⟨d, lo, hi, rfl, hd, k⟩ := h
  have b1 : Blt (X_is_number P w K mg base f cdv A outer s H E) "isinstance" (.builtin "isinstance") := ⟨rfl, zi, bb_isinstance, by decide, by decide⟩
  have b2 : Blt (X_is_number P w K mg base f cdv A outer s H E) "int" (.type "int") := ⟨rfl, zn, bb_int, by decide, by decide⟩
  have b3 : Blt (X_is_number P w K mg base f cdv A outer s H E) "bool" (.type "bool") := ⟨rfl, zb, bb_bool, by decide, by decide⟩
  wtm_at "b"
  cases d with
  | int i =>
    wtm_at "w is_number"
    refine ite_dec (fun h1 => ?_) (fun h1 => ?_)
    · wtm_at "w is_number"
      simpa [isNum, h1] using k
    · simpa [isNum, h1] using k
  | ref _ => cases hd
  | fzl _ => cases hd
  | ty n => cases hd
  | _ =>
    wtm_at "w is_number"
    exact k
end

/-! ### commands, books -/
structure Cmd where
  when : Int
  til : Int
  wants : List Nat
def encN (n : Nat) : D := .int (n : Int)
def Cmd.enc (c : Cmd) : D := .tup [.int c.when, .int c.til, .tup (c.wants.map encN)]
def encB (b : List Cmd) : D := .tup (b.map Cmd.enc)
structure CmdOk (c : Cmd) (i : Nat) : Prop where
  w0 : 0 ≤ c.when
  w1 : c.when ≤ c.til
  w2 : c.til ≤ 200
  lt : ∀ n ∈ c.wants, n < i
  up : c.wants.Pairwise (· < ·)
structure BookOk (b : List Cmd) : Prop where
  ne : b ≠ []
  le : b.length ≤ 8
  ok : ∀ i c, b[i]? = some c → CmdOk c i
theorem num_ok {i lo hi : Int} {M : Mem} {Q : D → Mem → Prop} (h0 : lo ≤ i) (h1 : i ≤ hi) (q : Q (.bl true) M) : spIsNumber [.int i, .int lo, .int hi] M Q := by
  refine ⟨_, _, _, rfl, rfl, ?_⟩
  have e : isNum (.int i) lo hi = true := by simp [isNum, h0, h1]
  rw [e]; exact q
theorem up_len_aux {i : Nat} : ∀ (l : List Nat) (k : Nat), l.Pairwise (· < ·) → (∀ n ∈ l, k ≤ n ∧ n < i) → l.length + k ≤ max i k := by
  intro l
  induction l with
  | nil => intro k _ _; simp; omega
  | cons x l ih =>
    intro k hp h
    rw [List.pairwise_cons] at hp
    have h1 := h x (by simp)
    have h2 := ih (k + 1) hp.2 fun n hn => ⟨by have := hp.1 n hn; omega, (h n (List.mem_cons_of_mem _ hn)).2⟩
    simp only [List.length_cons]
    omega
theorem up_len {i : Nat} {l : List Nat} (hp : l.Pairwise (· < ·)) (h : ∀ n ∈ l, n < i) : l.length ≤ i := by
  have := up_len_aux l 0 hp fun n hn => ⟨Nat.zero_le _, h n hn⟩
  omega
theorem enc_okE (c : Cmd) : c.enc.okE = true ∧ c.enc.dep ≤ 2 := by
  have h1 : okEs (c.wants.map encN) = true := okEs_all.mpr fun d hd => by
    obtain ⟨n, _, rfl⟩ := List.mem_map.mp hd
    rfl
  have h2 : deps (c.wants.map encN) ≤ 0 := deps_le.mpr fun d hd => by
    obtain ⟨n, _, rfl⟩ := List.mem_map.mp hd
    exact Nat.le_refl 0
  unfold Cmd.enc
  constructor
  · simp [D.okE, okEs, h1]
  · simp [D.dep, deps]
    omega
theorem encB_okE (b : List Cmd) : (encB b).okE = true ∧ (encB b).dep ≤ 3 := by
  unfold encB
  constructor
  · unfold D.okE
    exact okEs_all.mpr fun d hd => by
      obtain ⟨c, _, rfl⟩ := List.mem_map.mp hd
      exact (enc_okE c).1
  · exact dep_tup.mpr ⟨by decide, fun d hd => by
      obtain ⟨c, _, rfl⟩ := List.mem_map.mp hd
      exact (enc_okE c).2⟩
theorem bx_lenB {B : Bs} {X : Cx} {G : Sl} {M : Mem} {Q : D → Mem → Prop} {b : List Cmd} (q : Q (.int (b.length : Nat)) M) : BX B X (.builtin "len") [encB b] G M Q := by
  unfold encB
  refine bx_lenT ?_
  rw [List.length_map]; exact q
def spIsCommand : DSp := fun ds M Q => ∃ (c : Cmd) (i : Nat), ds = [c.enc, .int i] ∧ CmdOk c i ∧ i ≤ 8 ∧ Q (.bl true) M
def spNeedBook : DSp := fun ds M Q => ∃ b : List Cmd, ds = [encB b] ∧ BookOk b ∧ Q .non M
def spNeedDelay : DSp := fun ds M Q => ∃ n : Int, ds = [.int n] ∧ 1 ≤ n ∧ n ≤ 9 ∧ Q .non M
section
variable {P : Program} {w : World} {K : PySem.W.Frag} {mg : Str → Option Value} {base : Heap}
theorem ok_is_command {f : Addr} {fd : FuncData} (Fn : Fun K "is_command" "is_command" s_is_command f fd) (zi : mg "isinstance" = none) (zt : mg "tuple" = none) (zl : mg "len" = none) (zr : mg "range" = none) (gM : Cst K mg "MOST_BEAT" (.int 200)) (dN : Dfn P w K mg base 1 "is_number" spIsNumber) :
    FnOk P w K mg base CX0 2 f fd ["part", "number"] (lift K spIsCommand) := by
  refine fun_ok Fn sc_is_command (fun ds M Q ⟨_, _, e, _⟩ => by rw [e]; rfl) fun cdv A outer s H E hr ds M Q h B => ?_
  obtain ⟨c, i, rfl, ok, hi, k⟩ := h
  have hlen := up_len ok.up ok.lt
  unfold Cmd.enc
  wtm_at "b"
  wtm_at "g is_command"
  refine num_ok ok.w0 (Int.le_trans ok.w1 ok.w2) ?_
  wtm_at "g is_command"
  refine num_ok ok.w1 ok.w2 ?_
  wtm_at "g is_command"
  wtm_at "lcp is_command 0"
  case f => exact fun _ => none
  refine lx_tup ?_
  wtm_at "g is_command"
  refine ⟨_, rfl, ⟨?_, fun d M' hd hm => ?_⟩, ?_⟩
  · rw [List.length_map]
    exact Nat.lt_of_le_of_lt (by omega : _ ≤ 8) (by decide)
  · obtain ⟨n, hn, rfl⟩ := List.mem_map.mp hd
    have hlt := ok.lt n hn
    refine fun s1 H1 C1 cl1 fp1 => txs_one ?_
    wtm_at "gb is_command"
    refine num_ok (by omega) (by omega) ⟨rfl, rfl⟩
  rw [filterMap_none]
  wtm_at "g is_command"
  refine ox_ne0 (n := 0) hr.units (by simp) (by decide) ?_
  wtm_at "g is_command"
  wtm_at "lcp is_command 1"
  case f => exact fun _ => none
  refine lx_range2 rfl zr rfl rfl ?_
  wtm_at "g is_command"
  refine ⟨_, _, rfl, rfl, by rw [List.length_map]; omega, ⟨?_, fun d M' hd hm => ?_⟩, ?_⟩
  · rw [rangeD_len, List.length_map]
    exact Nat.lt_of_le_of_lt (by omega : _ ≤ 8) (by decide)
  · obtain ⟨j, hj⟩ := List.mem_iff_getElem?.mp hd
    obtain ⟨hlt, rfl⟩ := rangeD_at hj
    rw [List.length_map] at hlt
    have h1 : j + 1 < c.wants.length := by omega
    have h0 : j < c.wants.length := by omega
    have e1 : (c.wants.map encN)[j + 1]? = some (encN c.wants[j + 1]) := by rw [List.getElem?_map, List.getElem?_eq_getElem h1]; rfl
    have e0 : (c.wants.map encN)[j]? = some (encN c.wants[j]) := by rw [List.getElem?_map, List.getElem?_eq_getElem h0]; rfl
    have up := List.pairwise_iff_getElem.mp ok.up j (j + 1) h0 h1 (by omega)
    refine fun s1 H1 C1 cl1 fp1 => txs_one ?_
    wtm_at "wb is_command"
    refine ix_t (atI_of (j := j + 1) (by omega) e1) ?_
    wtm_at "wb is_command"
    refine ix_t (atI_of (j := j) (by omega) e0) ?_
    unfold encN
    wtm_at "wb is_command"
    refine iteF' (decide_eq_false (by omega)) ⟨rfl, rfl⟩
  · rw [filterMap_none]
    wtm_at "g is_command"
    exact ox_eq0 (n := 0) hr.units (by simp) (by decide) k
theorem ok_need_book {f : Addr} {fd : FuncData} (Fn : Fun K "need_book" "need_book" s_need_book f fd) (zi : mg "isinstance" = none) (zt : mg "tuple" = none) (ze : mg "enumerate" = none) (gM : Cst K mg "MOST_COMMANDS" (.int 8)) (dN : Dfn P w K mg base 2 "is_command" spIsCommand) :
    FnOk P w K mg base CX0 3 f fd ["book"] (lift K spNeedBook) := by
  refine fun_ok Fn sc_need_book (fun ds M Q ⟨_, e, _⟩ => by rw [e]; rfl) fun cdv A outer s H E hr ds M Q h B => ?_
  obtain ⟨b, rfl, ok, k⟩ := h
  unfold encB
  wtm_at "b"
  wtm_at "g need_book"
  refine ox_eqD hr.units (okEq_of (encB_okE b).1 (Nat.le_trans (encB_okE b).2 (by decide))) (okEq_tup (n := 0) (by simp) (by decide)) ?_
  rw [eqD_tup, eqDs_nil_r]
  have h0 : (b.map Cmd.enc).isEmpty = false := by
    cases b with
    | nil => exact absurd rfl ok.ne
    | cons c b => rfl
  rw [h0]
  wtm_at "g need_book"
  refine sx_for PassesOwn.never rfl (fun _ => rfl) ?_
  refine lx_enumT rfl ze rfl ⟨_, _, _, rfl⟩ ?_
  wtm_at "g need_book"
  refine ⟨_, rfl, fun i G' M' => ∃ a c, G' = [some (.tup (b.map Cmd.enc)), a, c] ∧ M' = M, ⟨_, _, rfl, rfl⟩, ?_, ?_⟩
  · rintro i d G' M' hd ⟨a, c, rfl, rfl⟩
    obtain ⟨x, hx, rfl⟩ := enumD_at hd
    rw [List.getElem?_map] at hx
    obtain ⟨cm, hcm, rfl⟩ := Option.map_eq_some_iff.mp hx
    have hi : i < b.length := (List.getElem?_eq_some_iff.mp hcm).1
    have h8 := ok.le
    wtm_at "g need_book"
    refine ite_dec (fun h1 => by omega) (fun _ => ?_)
    wtm_at "g need_book"
    refine ⟨cm, i, rfl, ok.ok i cm hcm, by omega, ?_⟩
    wtm_at "g need_book"
    exact ⟨_, _, rfl, rfl⟩
  · rintro G' M' ⟨a, c, rfl, rfl⟩
    exact k
end

section
variable {P : Program} {w : World} {K : PySem.W.Frag} {mg : Str → Option Value} {base : Heap}
theorem ok_need_delay {f : Addr} {fd : FuncData} (Fn : Fun K "need_delay" "need_delay" s_need_delay f fd) (gM : Cst K mg "MOST_DELAY" (.int 9)) (dN : Dfn P w K mg base 1 "is_number" spIsNumber) :
    FnOk P w K mg base CX0 2 f fd ["delay"] (lift K spNeedDelay) := by
  refine fun_ok Fn sc_need_delay (fun ds M Q ⟨_, e, _⟩ => by rw [e]; rfl) fun cdv A outer s H E hr ds M Q h B => ?_
  obtain ⟨n, rfl, h0, h1, k⟩ := h
  wtm_at "b"
  wtm_at "g need_delay"
  refine num_ok h0 h1 ?_
  wtm_at "g need_delay"
  exact k
end

/-! ### sends, lists of numbers as data -/
def encSd (s : Int × Nat) : D := .tup [.int s.1, encN s.2]
structure SendsOk (n : Nat) (ss : List (Int × Nat)) : Prop where
  ok : ∀ s ∈ ss, 0 ≤ s.1 ∧ s.1 ≤ 199 ∧ s.2 < n
  up : ss.Pairwise (fun a b => a.1 < b.1)
def encNs (l : List Nat) : D := .lst (l.map encN)
def encLL (xs : List (List Nat)) : D := .lst (xs.map encNs)

/-! ### what a craft has of a command -/
inductive Wd where
  | none | held | done | back | late
  deriving DecidableEq
def Wd.str : Wd → Str
  | .none => "none" | .held => "held" | .done => "done" | .back => "back" | .late => "late"
def Wd.all : List Wd := [.none, .held, .done, .back, .late]
theorem Wd.mem (a : Wd) : a ∈ Wd.all := by cases a <;> decide
theorem Wd.inj {a b : Wd} : a.str = b.str ↔ a = b := by
  have h : ∀ a ∈ Wd.all, ∀ b ∈ Wd.all, (a.str = b.str ↔ a = b) := by decide +kernel
  exact h a a.mem b b.mem
theorem Wd.strOk (a : Wd) : PyData.strOk a.str = true := by
  have h : ∀ a ∈ Wd.all, PyData.strOk a.str = true := by decide +kernel
  exact h a a.mem
def encW (w : Wd) : D := .str w.str
def encSt (s : List Wd) : D := .tup (s.map encW)
/-- a letter: whether it calls back, the number -/
abbrev Lt := Bool × Nat
def Lt.wd (l : Lt) : Str := if l.1 then "back" else "cmd"
def encLt (l : Lt) : D := .tup [.str l.wd, encN l.2]
def hearW (bk : Bool) (w : Wd) : Wd := if bk then (if w = .none ∨ w = .held then .back else w) else (if w = .none then .held else w)
def heardF (s : List Wd) (l : Lt) : List Wd := s.set l.2 (hearW l.1 (s.getD l.2 .none))
def goneOne (c : Cmd) (t : Int) (s : List Wd) (w : Wd) : Wd := if w = .held then (if c.til < t then .late else if c.when ≤ t ∧ ∀ j ∈ c.wants, s.getD j .none = .done then .done else .held) else w
def goneGo (t : Int) : List Cmd → Nat → List Wd → List Wd
  | [], _, s => s
  | c :: cs, i, s => goneGo t cs (i + 1) (s.set i (goneOne c t s (s.getD i .none)))
def goneF (b : List Cmd) (t : Int) (s : List Wd) : List Wd := goneGo t b 0 s
def beatenF (b : List Cmd) (s : List Wd) (ls : List Lt) (t : Int) : List Wd := goneF b t (ls.foldl heardF s)
theorem heardF_len {s : List Wd} {l : Lt} : (heardF s l).length = s.length := by simp [heardF]
theorem foldl_heard_len : ∀ {ls : List Lt} {s : List Wd}, (ls.foldl heardF s).length = s.length
  | [], _ => rfl
  | l :: ls, s => by rw [List.foldl_cons, foldl_heard_len, heardF_len]
theorem goneGo_len {t : Int} : ∀ {b : List Cmd} {i : Nat} {s : List Wd}, (goneGo t b i s).length = s.length
  | [], _, _ => rfl
  | c :: cs, i, s => by rw [goneGo, goneGo_len]; simp
theorem beatenF_len {b : List Cmd} {s : List Wd} {ls : List Lt} {t : Int} : (beatenF b s ls t).length = s.length := by rw [beatenF, goneF, goneGo_len, foldl_heard_len]
theorem encW_at {s : List Wd} {n : Nat} (h : n < s.length) : (s.map encW)[n]? = some (encW (s.getD n .none)) := by
  rw [List.getElem?_map, List.getElem?_eq_getElem h, List.getD_eq_getElem?_getD, List.getElem?_eq_getElem h]; rfl
theorem set_getD {s : List Wd} {n : Nat} (h : n < s.length) : s.set n (s.getD n .none) = s := by
  rw [List.getD_eq_getElem?_getD, List.getElem?_eq_getElem h]
  exact List.set_getElem_self h
theorem strs_okE {ws : List Wd} : ∀ d ∈ ws.map encW, d.okE = true ∧ d.dep ≤ 0 := fun d hd => by
  obtain ⟨x, _, rfl⟩ := List.mem_map.mp hd
  exact ⟨by unfold encW D.okE; exact x.strOk, by unfold encW D.dep; exact Nat.le_refl 0⟩
theorem eqDs_encW {xs ys : List Wd} : eqDs (xs.map encW) (ys.map encW) = decide (xs = ys) := eqDs_enc (fun x y => by
  unfold encW
  rw [eqD_str']
  exact dec_of Wd.inj) xs ys
theorem done_eq : ∀ {s : List Wd} {ws : List Nat}, ((ws.map fun j => s.getD j .none) = List.replicate ws.length .done) ↔ ∀ j ∈ ws, s.getD j .none = .done
  | s, [] => by simp
  | s, j :: ws => by
    rw [List.map_cons, List.length_cons, List.replicate_succ, List.cons.injEq, done_eq (ws := ws)]
    simp
theorem inD_w {w : Wd} {ws : List Wd} : inD (encW w) (ws.map encW) = decide (w ∈ ws) := by
  have e : ws.map encW = (ws.map Wd.str).map D.str := by rw [List.map_map]; rfl
  unfold encW at e ⊢
  rw [e, inD_str]
  refine dec_of ?_
  rw [List.mem_map]
  constructor
  · rintro ⟨a, ha, h⟩
    rw [← Wd.inj.mp h]; exact ha
  · exact fun h => ⟨w, h, rfl⟩
theorem flat_encW {ws : List Wd} : (ws.map encW).all D.flat = true := by
  simp only [List.all_map, List.all_eq_true]
  intro x _; rfl
section
variable {B : Bs} {X : Cx} {G : Sl} {M : Mem} {Q : D → Mem → Prop} {w v : Wd} {ws : List Wd}
theorem ox_inW (q : Q (.bl (decide (w ∈ ws))) M) : OX B X (compareOp .In) (encW w) (.tup (ws.map encW)) G M Q := ox_inT rfl flat_encW (by rw [inD_w]; exact q)
theorem ox_notInW (q : Q (.bl (!decide (w ∈ ws))) M) : OX B X (compareOp .NotIn) (encW w) (.tup (ws.map encW)) G M Q := ox_notInT rfl flat_encW (by rw [inD_w]; exact q)
theorem ox_eqW (v : Wd) (q : Q (.bl (decide (w = v))) M) : OX B X (compareOp .Eq) (encW w) (.str v.str) G M Q := by
  unfold encW
  refine ox_eqS ?_
  rw [dec_of Wd.inj]; exact q
theorem ox_neW (v : Wd) (q : Q (.bl (!decide (w = v))) M) : OX B X (compareOp .NotEq) (encW w) (.str v.str) G M Q := by
  unfold encW
  refine ox_neS ?_
  rw [dec_of Wd.inj]; exact q
end

/-! ### when each is done -/
def encO' : Option Int → D
  | none => .non
  | some i => .int i
/-- the greatest, none if one is -/
def maxO (w : Int) : List (Option Int) → Option Int
  | [] => some w
  | none :: _ => none
  | some x :: r => (maxO w r).map (max x)
def doneOne (c : Cmd) (come : Option Int) (found : List (Option Int)) : Option Int :=
  match maxO c.when (come :: c.wants.map fun j => found.getD j none) with
  | none => none
  | some m => if m ≤ c.til then some m else none
def doneList (comes : List (Option Int)) : List Cmd → List (Option Int) → List (Option Int)
  | [], found => found
  | c :: cs, found => doneList comes cs (found ++ [doneOne c (comes.getD found.length none) found])
def doneAt (b : List Cmd) (comes : List (Option Int)) : List (Option Int) := doneList comes b []
theorem doneList_len {comes : List (Option Int)} : ∀ {b : List Cmd} {found : List (Option Int)}, (doneList comes b found).length = found.length + b.length
  | [], found => by simp [doneList]
  | c :: cs, found => by
    rw [doneList, doneList_len]; simp; omega
theorem doneAt_len {b : List Cmd} {comes : List (Option Int)} : (doneAt b comes).length = b.length := by simp [doneAt, doneList_len]
theorem inD_non : ∀ {xs : List (Option Int)}, inD .non (xs.map encO') = decide (none ∈ xs)
  | [] => by simp [inD, inV]
  | none :: ys => by
    have e : inD .non ((none :: ys).map encO') = (true || inD .non (ys.map encO')) := rfl
    rw [e]; simp
  | some x :: ys => by
    have ih : inD .non (ys.map encO') = decide (none ∈ ys) := inD_non
    have e : inD .non ((some x :: ys).map encO') = (false || inD .non (ys.map encO')) := rfl
    rw [e, ih]; simp
theorem flat_encO {xs : List (Option Int)} : (xs.map encO').all D.flat = true := by
  simp only [List.all_map, List.all_eq_true]
  intro x _
  cases x <;> rfl
theorem maxO_none {w : Int} : ∀ {l : List (Option Int)}, none ∈ l → maxO w l = none
  | none :: _, _ => rfl
  | some x :: r, h => by
    have h' : none ∈ r := by simpa using h
    show (maxO w r).map (max x) = none
    rw [maxO_none h']; rfl
theorem maxO_some {w : Int} : ∀ {l : List (Option Int)}, none ∉ l → ∃ ns : List Int, l.map encO' = ns.map D.int ∧ ∃ m, maxO w l = some m ∧ m ∈ ns ++ [w] ∧ ∀ y ∈ ns ++ [w], y ≤ m
  | [], _ => ⟨[], rfl, w, rfl, by simp, by simp⟩
  | none :: _, h => by simp at h
  | some x :: r, h => by
    obtain ⟨ns, e, m, h1, h2, h3⟩ := maxO_some (w := w) (l := r) (by simpa using h)
    refine ⟨x :: ns, by rw [List.map_cons, e]; rfl, max x m, by show (maxO w r).map (max x) = _; rw [h1]; rfl, ?_, ?_⟩
    · rw [List.cons_append]
      rcases Int.le_total x m with hx | hx
      · rw [Int.max_eq_right hx]; exact List.mem_cons_of_mem _ h2
      · rw [Int.max_eq_left hx]; simp
    · intro y hy
      rw [List.cons_append] at hy
      rcases List.mem_cons.mp hy with rfl | hy
      · exact Int.le_max_left _ _
      · exact Int.le_trans (h3 y hy) (Int.le_max_right _ _)
def spDoneAt : DSp := fun ds M Q => ∃ (b : List Cmd) (comes : List (Option Int)), ds = [encB b, .lst (comes.map encO')] ∧ BookOk b ∧ comes.length = b.length ∧ Q (.lst ((doneAt b comes).map encO')) M
section
variable {P : Program} {w : World} {K : PySem.W.Frag} {mg : Str → Option Value} {base : Heap}
theorem ok_done_at {f : Addr} {fd : FuncData} (Fn : Fun K "done_at" "done_at" s_done_at f fd) (ze : mg "enumerate" = none) (zm : mg "max" = none) : FnOk P w K mg base CX0 1 f fd ["book", "comes"] (lift K spDoneAt) := by
  refine fun_ok Fn sc_done_at (fun ds M Q ⟨_, _, e, _⟩ => by rw [e]; rfl) fun cdv A outer s H E hr ds M Q h B => ?_
  obtain ⟨b, comes, rfl, ok, hlen, k⟩ := h
  unfold encB
  wtm_at "b"
  wtm_at "g done_at"
  refine ex_lstM ?_
  wtm_at "g done_at"
  refine fun l fl => ?_
  wtm_at "g done_at"
  refine sx_for PassesOwn.never rfl (fun _ => rfl) ?_
  refine lx_enumT rfl ze rfl ⟨_, _, _, rfl⟩ ?_
  wtm_at "g done_at"
  refine ⟨_, rfl, fun i G' M' => ∃ found a3 a4 a5 a6 a7 a8 a9 a10, G' = [some (.tup (b.map Cmd.enc)), some (.lst (comes.map encO')), some (.ref l), a3, a4, a5, a6, a7, a8, a9, a10] ∧ found.length = i ∧ doneList comes (b.drop i) found = doneAt b comes ∧ M' = mupd M l (.lst (found.map encO')),
    ⟨[], _, _, _, _, _, _, _, _, rfl, rfl, rfl, rfl⟩, ?_, ?_⟩
  · rintro i d G' M' hd ⟨found, a3, a4, a5, a6, a7, a8, a9, a10, rfl, hfl, hdl, rfl⟩
    obtain ⟨x, hx, rfl⟩ := enumD_at hd
    rw [List.getElem?_map] at hx
    obtain ⟨c, hc, rfl⟩ := Option.map_eq_some_iff.mp hx
    have hi : i < b.length := (List.getElem?_eq_some_iff.mp hc).1
    have cok := ok.ok i c hc
    have h8 := ok.le
    have hwl := up_len cok.up cok.lt
    have hcm : (comes.map encO')[i]? = some (encO' (comes.getD i none)) := by
      rw [List.getElem?_map, List.getElem?_eq_getElem (by omega), List.getD_eq_getElem?_getD, List.getElem?_eq_getElem (by omega)]; rfl
    unfold Cmd.enc
    wtm_at "g done_at"
    refine ix_l (atI_of rfl hcm) ?_
    wtm_at "g done_at"
    wtm_at "lcp done_at 0"
    case f => exact fun d => match d with
      | .int j => some (encO' (found.getD j.toNat none))
      | _ => none
    refine lx_tup ?_
    wtm_at "g done_at"
    refine ⟨_, rfl, ⟨?_, fun d M' hd hm => ?_⟩, ?_⟩
    · rw [List.length_map]
      exact Nat.lt_of_le_of_lt (by omega : _ ≤ 8) (by decide)
    · obtain ⟨n, hn, rfl⟩ := List.mem_map.mp hd
      have hlt := cok.lt n hn
      have hfm : (found.map encO')[n]? = some (encO' (found.getD n none)) := by
        rw [List.getElem?_map, List.getElem?_eq_getElem (by omega), List.getD_eq_getElem?_getD, List.getElem?_eq_getElem (by omega)]; rfl
      refine fun s1 H1 C1 cl1 fp1 => txs_nil (iteT fun s2 H2 C2 cl2 fp2 => ?_)
      wtm_at "wb done_at"
      refine ix_c (hm l _ mupd_same) (atI_of rfl hfm) ?_
      exact ⟨rfl, rfl⟩
    have eW : (c.wants.map encN).filterMap (fun d => match d with
      | .int j => some (encO' (found.getD j.toNat none))
      | _ => none) = (c.wants.map fun j => found.getD j none).map encO' := by
      rw [filterMap_enc (enc := encN) (g := fun j => encO' (found.getD j none)) (fun _ _ => rfl), List.map_map]; rfl
    rw [eW]
    refine ox_catL IsL.fz IsL.fz ?_ ?_
    · rw [List.length_map, List.length_map]
      exact Nat.le_trans (by simp; omega : _ ≤ 9) (by decide)
    show SXs _ _ _ _ (_ : Sl) _
    have eS : [encO' (comes.getD i none)] ++ (c.wants.map fun j => found.getD j none).map encO' = (comes.getD i none :: c.wants.map fun j => found.getD j none).map encO' := rfl
    rw [eS]
    generalize hS : (comes.getD i none :: c.wants.map fun j => found.getD j none) = some_ at *
    wtm_at "g done_at"
    have hone : doneOne c (comes.getD i none) found = match maxO c.when some_ with
        | none => none
        | some m => if m ≤ c.til then some m else none := by unfold doneOne; rw [hS]
    have fin : ∀ v : Option Int, v = doneOne c (comes.getD i none) found → doneList comes (b.drop (i + 1)) (found ++ [v]) = doneAt b comes ∧ (found ++ [v]).length = i + 1 := by
      intro v hv
      rw [← hdl, List.drop_eq_getElem_cons hi, doneList, hfl, hv]
      have e : b[i] = c := by
        have := List.getElem?_eq_getElem hi
        rw [this] at hc; exact Option.some.inj hc
      rw [e]
      exact ⟨rfl, by simp [hfl]⟩
    have hsz : (found.map encO').length < sizeLine := by
      rw [List.length_map]
      exact Nat.lt_of_le_of_lt (by omega : _ ≤ 8) (by decide)
    refine ox_inL rfl flat_encO ?_
    rw [inD_non]
    refine asB_bl (ite_dec (fun hn => ?_) (fun hn => ?_))
    · rw [maxO_none hn] at hone
      obtain ⟨f1, f2⟩ := fin none hone.symm
      wtm_at "g done_at"
      refine ex_append rfl rfl rfl rfl rfl ?_
      wtm_at "g done_at"
      refine ⟨l, _, rfl, mupd_same, ?_⟩
      wtm_at "g done_at"
      refine ⟨_, mupd_same, hsz, ?_⟩
      wtm_at "g done_at"
      refine ⟨_, _, _, _, _, _, _, _, _, rfl, f2, f1, ?_⟩
      rw [mupd_mupd, List.map_append]
      rfl
    · obtain ⟨ns, ens, m, hm1, hm2, hm3⟩ := maxO_some (w := c.when) hn
      rw [hm1] at hone
      wtm_at "g done_at"
      rw [ens]
      refine ox_catL IsL.fz IsL.fz ?_ ?_
      · have : some_.length = ns.length := by
          have := congrArg List.length ens
          simpa using this
        rw [List.length_map, ← this, ← hS]
        exact Nat.le_trans (by simp; omega : _ ≤ 12) (by decide)
      wtm_at "g done_at"
      refine bx_maxL (ns := ns ++ [c.when]) rfl (by rw [List.map_append]; exact IsL.fz) (by simp) fun m' h1 h2 => ?_
      have em : m' = m := Int.le_antisymm (hm3 m' h1) (h2 m hm2)
      subst em
      wtm_at "g done_at"
      refine ex_append rfl rfl rfl rfl rfl ?_
      wtm_at "g done_at"
      refine ⟨l, _, rfl, mupd_same, ?_⟩
      wtm_at "g done_at"
      refine ite_dec (fun hle => ?_) (fun hle => ?_)
      · obtain ⟨f1, f2⟩ := fin (some m') (by rw [hone]; exact (if_pos hle).symm)
        wtm_at "g done_at"
        refine ⟨_, mupd_same, hsz, ?_⟩
        wtm_at "g done_at"
        refine ⟨_, _, _, _, _, _, _, _, _, rfl, f2, f1, ?_⟩
        rw [mupd_mupd, List.map_append]
        rfl
      · obtain ⟨f1, f2⟩ := fin none (by rw [hone]; exact (if_neg hle).symm)
        wtm_at "g done_at"
        refine ⟨_, mupd_same, hsz, ?_⟩
        wtm_at "g done_at"
        refine ⟨_, _, _, _, _, _, _, _, _, rfl, f2, f1, ?_⟩
        rw [mupd_mupd, List.map_append]
        rfl
  · rintro G' M' ⟨found, a3, a4, a5, a6, a7, a8, a9, a10, rfl, hfl, hdl, rfl⟩
    rw [enumD_len, List.length_map] at hfl
    refine sxs_one (sx_ret (ex_freeze ?_))
    wtm_at "g done_at"
    refine ⟨l, _, rfl, mupd_same, ?_⟩
    rw [mdel_mupd fl]
    rw [enumD_len, List.length_map, List.drop_length] at hdl
    have e : found = doneAt b comes := hdl
    rw [e]
    exact k
end

/-! ### letters that are sent -/
def comeStep (d : Int) (cs : List (Option Int)) (s : Int × Nat) : List (Option Int) := if cs.getD s.2 none = none then cs.set s.2 (some (s.1 + d)) else cs
def comesOf (n : Nat) (d : Int) (ss : List (Int × Nat)) : List (Option Int) := ss.foldl (comeStep d) (List.replicate n none)
theorem comeStep_len {d : Int} {cs : List (Option Int)} {s : Int × Nat} : (comeStep d cs s).length = cs.length := by
  unfold comeStep; split <;> simp
theorem foldl_come_len {d : Int} : ∀ {ss : List (Int × Nat)} {cs : List (Option Int)}, (ss.foldl (comeStep d) cs).length = cs.length
  | [], _ => rfl
  | s :: ss, cs => by rw [List.foldl_cons, foldl_come_len, comeStep_len]
theorem comesOf_len {n : Nat} {d : Int} {ss : List (Int × Nat)} : (comesOf n d ss).length = n := by
  unfold comesOf; rw [foldl_come_len]; simp
def allDone (b : List Cmd) (d : Int) (ss : List (Int × Nat)) : Bool := !decide (none ∈ doneAt b (comesOf b.length d ss))
theorem flatten_single {α : Type} {n : Nat} {x : α} : (List.replicate n [x]).flatten = List.replicate n x := by
  induction n with
  | zero => rfl
  | succ n ih => simp [List.replicate_succ, ih]
def spNeedSends : DSp := fun ds M Q => ∃ (b : List Cmd) (ss : List (Int × Nat)), ds = [encB b, .lst (ss.map encSd)] ∧ b.length ≤ 8 ∧ SendsOk b.length ss ∧ Q .non M
def spAllDone : DSp := fun ds M Q => ∃ (b : List Cmd) (d : Int) (ss : List (Int × Nat)), ds = [encB b, .int d, .lst (ss.map encSd)] ∧ BookOk b ∧ (∀ s ∈ ss, s.2 < b.length) ∧ Q (.bl (allDone b d ss)) M
section
variable {P : Program} {w : World} {K : PySem.W.Frag} {mg : Str → Option Value} {base : Heap}
theorem ok_need_sends {f : Addr} {fd : FuncData} (Fn : Fun K "need_sends" "need_sends" s_need_sends f fd) (zi : mg "isinstance" = none) (zt : mg "tuple" = none) (zl : mg "len" = none) (ze : mg "enumerate" = none) (gM : Cst K mg "MOST_BEAT" (.int 200)) (dN : Dfn P w K mg base 1 "is_number" spIsNumber) :
    FnOk P w K mg base CX0 2 f fd ["book", "sends"] (lift K spNeedSends) := by
  refine fun_ok Fn sc_need_sends (fun ds M Q ⟨_, _, e, _⟩ => by rw [e]; rfl) fun cdv A outer s H E hr ds M Q h B => ?_
  obtain ⟨b, ss, rfl, hb, ok, k⟩ := h
  unfold encB
  wtm_at "b"
  wtm_at "g need_sends"
  refine ex_un ?_
  wtm_at "g need_sends"
  refine ux_neg ?_
  wtm_at "g need_sends"
  refine sx_for PassesOwn.never rfl (fun _ => rfl) ?_
  refine lx_enum rfl ze rfl ⟨_, _, _, rfl⟩ ?_
  wtm_at "g need_sends"
  refine ⟨_, rfl, fun i G' M' => ∃ (last : Int) (a3 a4 : Option D), G' = [some (.tup (b.map Cmd.enc)), some (.lst (ss.map encSd)), some (.int last), a3, a4] ∧ (∀ s ∈ ss.drop i, last < s.1) ∧ M' = M, ⟨-1, _, _, rfl, fun s hs => by have := (ok.ok s hs).1; omega, rfl⟩, ?_, ?_⟩
  · rintro i d G' M' hd ⟨last, a3, a4, rfl, hlast, rfl⟩
    obtain ⟨x, hx, rfl⟩ := enumD_at hd
    rw [List.getElem?_map] at hx
    obtain ⟨sd, hsd, rfl⟩ := Option.map_eq_some_iff.mp hx
    have hi : i < ss.length := (List.getElem?_eq_some_iff.mp hsd).1
    have esd : ss[i] = sd := by
      rw [List.getElem?_eq_getElem hi] at hsd; exact Option.some.inj hsd
    have hm := ok.ok sd (List.mem_of_getElem? hsd)
    have hl := hlast sd (by rw [List.drop_eq_getElem_cons hi, esd]; simp)
    unfold encSd encN
    wtm_at "g need_sends"
    refine num_ok (by omega) (by omega) ?_
    wtm_at "g need_sends"
    rw [List.length_map]
    refine num_ok (by omega) (by omega) ?_
    wtm_at "g need_sends"
    refine ⟨sd.1, _, _, rfl, fun s hs => ?_, rfl⟩
    have up := ok.up
    rw [← List.take_append_drop i ss, List.drop_eq_getElem_cons hi, List.pairwise_append] at up
    have := (List.pairwise_cons.mp up.2.1).1 s hs
    rw [esd] at this
    exact this
  · rintro G' M' ⟨last, a3, a4, rfl, hlast, rfl⟩
    exact k
theorem ok_all_done {f : Addr} {fd : FuncData} (Fn : Fun K "all_done" "all_done" s_all_done f fd) (zl : mg "len" = none) (dD : Dfn P w K mg base 1 "done_at" spDoneAt) : FnOk P w K mg base CX0 2 f fd ["book", "delay", "sends"] (lift K spAllDone) := by
  refine fun_ok Fn sc_all_done (fun ds M Q ⟨_, _, _, e, _⟩ => by rw [e]; rfl) fun cdv A outer s H E hr ds M Q h B => ?_
  obtain ⟨b, d, ss, rfl, ok, hss, k⟩ := h
  have h8 := ok.le
  wtm_at "b"
  wtm_at "g all_done"
  unfold encB
  wtm_at "g all_done"
  rw [List.length_map]
  refine ox_repLM (by omega) (by omega) fun c fc => ?_
  wtm_at "g all_done"
  refine sx_for PassesOwn.never rfl (fun _ => rfl) ?_
  refine lx_list ?_
  wtm_at "g all_done"
  have e0 : (List.replicate (b.length : Int).toNat D.non) = (List.replicate b.length none).map encO' := by simp [encO']
  refine ⟨_, rfl, fun i G' M' => ∃ (a4 a5 : Option D), G' = [some (.tup (b.map Cmd.enc)), some (.int d), some (.lst (ss.map encSd)), some (.ref c), a4, a5] ∧ M' = mupd M c (.lst (((ss.take i).foldl (comeStep d) (List.replicate b.length none)).map encO')), ⟨_, _, rfl, by rw [e0]; rfl⟩, ?_, ?_⟩
  · rintro i dd G' M' hd ⟨a4, a5, rfl, rfl⟩
    rw [List.getElem?_map] at hd
    obtain ⟨sd, hsd, rfl⟩ := Option.map_eq_some_iff.mp hd
    have hi : i < ss.length := (List.getElem?_eq_some_iff.mp hsd).1
    have hn := hss sd (List.mem_of_getElem? hsd)
    have etk : (ss.take (i + 1)).foldl (comeStep d) (List.replicate b.length none) = comeStep d ((ss.take i).foldl (comeStep d) (List.replicate b.length none)) sd := by
      rw [List.take_add_one, hsd, List.foldl_append]; rfl
    have hl : ((ss.take i).foldl (comeStep d) (List.replicate b.length none)).length = b.length := by rw [foldl_come_len]; simp
    generalize hcs0 : (ss.take i).foldl (comeStep d) (List.replicate b.length none) = cs at *
    clear hcs0
    have hcs : (cs.map encO')[sd.2]? = some (encO' (cs.getD sd.2 none)) := by
      rw [List.getElem?_map, List.getElem?_eq_getElem (by omega), List.getD_eq_getElem?_getD, List.getElem?_eq_getElem (by omega)]; rfl
    unfold encSd encN
    wtm_at "g all_done"
    refine ix_c mupd_same (atI_of rfl hcs) ?_
    wtm_at "g all_done"
    have es : comeStep d cs sd = if cs.getD sd.2 none = none then cs.set sd.2 (some (sd.1 + d)) else cs := rfl
    cases hq : cs.getD sd.2 none with
    | none =>
      wtm_at "g all_done"
      refine gx_sub (fun _ => rfl) ?_
      wtm_at "g all_done"
      refine ⟨c, _, _, sd.2, rfl, rfl, mupd_same, ixN_nat (by rw [List.length_map]; omega), ?_⟩
      refine ⟨_, _, rfl, ?_⟩
      rw [mupd_mupd, etk, es, if_pos hq, List.map_set]
      rfl
    | some z =>
      wtm_at "g all_done"
      refine ⟨_, _, rfl, ?_⟩
      rw [etk, es, if_neg (by rw [hq]; simp)]
  · rintro G' M' ⟨a4, a5, rfl, rfl⟩
    rw [List.length_map, List.take_length]
    refine sxs_freeze (i := 3) rfl mupd_same ?_
    rw [mdel_mupd fc]
    wtm_at "b"
    wtm_at "g all_done"
    refine ⟨b, comesOf b.length d ss, rfl, ok, comesOf_len, ?_⟩
    refine ox_notInL rfl flat_encO ?_
    rw [inD_non]
    exact k
end

/-! ### all rising lists of so many numbers -/
def choicesF (many : Nat) : Nat → Nat → List (List Nat)
  | 0, _ => [[]]
  | k + 1, low => ((List.range (many - low)).map (low + ·)).flatMap fun n => (choicesF many k (n + 1)).map (n :: ·)
theorem flatMap_len {α β : Type} {f : α → List β} {c : Nat} : ∀ {l : List α}, (∀ x ∈ l, (f x).length ≤ c) → (l.flatMap f).length ≤ l.length * c
  | [], _ => by simp
  | x :: l, h => by
    have h1 := h x (by simp)
    have h2 := flatMap_len (l := l) fun y hy => h y (List.mem_cons_of_mem _ hy)
    rw [List.flatMap_cons, List.length_append, List.length_cons, Nat.succ_mul]
    omega
theorem choicesF_len {many : Nat} (hm : many ≤ 13) : ∀ {k low : Nat}, (choicesF many k low).length ≤ 13 ^ k
  | 0, _ => by simp [choicesF]
  | k + 1, low => by
    rw [choicesF]
    refine Nat.le_trans (flatMap_len (c := 13 ^ k) fun n _ => by rw [List.length_map]; exact choicesF_len hm) ?_
    rw [List.length_map, List.length_range, Nat.pow_succ, Nat.mul_comm]
    exact Nat.mul_le_mul_left _ (by omega)
theorem choicesF_mem {many : Nat} : ∀ {k low : Nat} {l : List Nat}, l ∈ choicesF many k low → l.length = k
  | 0, _, l, h => by
    have : l = [] := by simpa [choicesF] using h
    rw [this]; rfl
  | k + 1, low, l, h => by
    rw [choicesF, List.mem_flatMap] at h
    obtain ⟨n, _, h2⟩ := h
    obtain ⟨r, hr, rfl⟩ := List.mem_map.mp h2
    rw [List.length_cons, choicesF_mem hr]
theorem ne_of_mem {a c : Addr} {ls : List Addr} (ha : a ∈ ls) (h : c ∉ ls) : a ≠ c := fun e => h (e ▸ ha)
/-- new list cells -/
inductive Fresh (M M' : Mem) : List Addr → List (List Nat) → Prop
  | nil : Fresh M M' [] []
  | cons {l : Addr} {ls : List Addr} {x : List Nat} {xs : List (List Nat)} : M l = none → M' l = some (.lst (x.map encN)) → Fresh M M' ls xs → Fresh M M' (l :: ls) (x :: xs)
theorem Fresh.mono {M M' M2 : Mem} : ∀ {ls : List Addr} {xs : List (List Nat)}, Fresh M M' ls xs → (∀ l o, l ∈ ls → M' l = some o → M2 l = some o) → Fresh M M2 ls xs
  | _, _, .nil, _ => .nil
  | _, _, .cons h1 h2 t, k => .cons h1 (k _ _ (by simp) h2) (t.mono fun l o hl => k l o (List.mem_cons_of_mem _ hl))
theorem Fresh.app {M M' : Mem} : ∀ {ls ls2 : List Addr} {xs xs2 : List (List Nat)}, Fresh M M' ls xs → Fresh M M' ls2 xs2 → Fresh M M' (ls ++ ls2) (xs ++ xs2)
  | _, _, _, _, .nil, s => s
  | _, _, _, _, .cons h1 h2 t, s => .cons h1 h2 (t.app s)
theorem Fresh.len {M M' : Mem} : ∀ {ls : List Addr} {xs : List (List Nat)}, Fresh M M' ls xs → ls.length = xs.length
  | _, _, .nil => rfl
  | _, _, .cons _ _ t => by rw [List.length_cons, List.length_cons, t.len]
theorem Fresh.get {M M' : Mem} : ∀ {ls : List Addr} {xs : List (List Nat)} {i : Nat} {l : Addr}, Fresh M M' ls xs → ls[i]? = some l → ∃ x, xs[i]? = some x ∧ M l = none ∧ M' l = some (.lst (x.map encN))
  | _, _, _, _, .nil, h => by simp at h
  | _, _, 0, _, .cons h1 h2 _, h => by
    simp at h; subst h; exact ⟨_, rfl, h1, h2⟩
  | _, _, i + 1, l, .cons _ _ t, h => by
    obtain ⟨x, hx, r⟩ := t.get (i := i) (l := l) (by simpa using h)
    exact ⟨x, by simpa using hx, r⟩
def spChoices (n : Nat) : DSp := fun ds M Q => ∃ many size low : Nat, ds = [.int many, .int size, .int low] ∧ size ≤ n ∧ n ≤ 3 ∧ many ≤ 12 ∧ low ≤ 13 ∧ ∀ (ls : List Addr) (M' : Mem), Ext M M' → Fresh M M' ls (choicesF many size low) → Q (.lst (ls.map D.ref)) M'
section
variable {P : Program} {w : World} {K : PySem.W.Frag} {mg : Str → Option Value} {base : Heap}
theorem rec_choices {f : Addr} {fd : FuncData} (Fn : Fun K "choices" "choices" s_choices f fd) (mf : mg "choices" = some (.ref f)) (zr : mg "range" = none) : ∀ n, FnOk P w K mg base CX0 (n + 1) f fd ["many", "size", "low"] (lift K (spChoices n)) := by
  have bd := Fn.binds (ps := ["many", "size", "low"]) fun _ _ _ _ _ _ us hl => match us, hl with | [_, _, _], _ => rfl
  intro n
  have key : ∀ n', (n' = 0 ∨ ∃ m, n' = m + 1 ∧ Dfn P w K mg base (m + 1) "choices" (spChoices m)) → FnOk P w K mg base CX0 (n' + 1) f fd ["many", "size", "low"] (lift K (spChoices n')) := by
    intro n' hn'
    refine fun_ok Fn sc_choices (fun ds M Q ⟨_, _, _, e, _⟩ => by rw [e]; rfl) fun cdv A outer s H E hr ds M Q h B => ?_
    obtain ⟨many, size, low, rfl, hsz, hn3, hmany, hlow, k⟩ := h
    wtm_at "b"
    wtm_at "g choices"
    cases size with
    | zero =>
      wtm_at "g choices"
      refine ex_lst ?_
      refine ax_cons rfl ?_
      refine ex_lstM (ax_nil ⟨Nat.zero_le _, fun l fl => ?_⟩)
      wtm_at "g choices"
      exact k [l] _ (Ext.new fl) (.cons fl mupd_same .nil)
    | succ size =>
      refine ite_dec (fun h0 => by omega) (fun _ => ?_)
      rcases hn' with e | ⟨m, rfl, dC⟩
      · omega
      wtm_at "g choices"
      refine ex_lstM (ax_nil ⟨Nat.zero_le _, fun c fc => ?_⟩)
      wtm_at "g choices"
      refine sx_for PassesOwn.never rfl (fun _ => rfl) ?_
      refine lx_range2 rfl zr rfl rfl ?_
      wtm_at "g choices"
      refine ⟨_, _, rfl, rfl, by omega, fun i G' M' => ∃ (a4 a5 : Option D) (ls : List Addr), G' = [some (.int many), some (.int (size + 1 : Nat)), some (.int low), some (.ref c), a4, a5] ∧ Ext M M' ∧ M' c = some (.lst (ls.map D.ref)) ∧ c ∉ ls ∧ Fresh M M' ls (((List.range i).map (low + ·)).flatMap fun n => (choicesF many size (n + 1)).map (n :: ·)),
        ⟨_, _, [], rfl, Ext.new fc, mupd_same, by simp, .nil⟩, ?_, ?_⟩
      · rintro i d G' M' hd ⟨a4, a5, ls, rfl, hE, hc, hcl, hF⟩
        obtain ⟨hi, rfl⟩ := rangeD_at hd
        wtm_at "g choices"
        refine ex_bmC PySem.F.slot_list_extend PySem.F.type_list_extend rfl rfl rfl rfl rfl ?_
        wtm_at "g choices"
        refine ⟨c, _, rfl, hc, ?_⟩
        refine ax_cons rfl ?_
        wtm_at "lc choices 0"
        refine lx_list ?_
        wtm_at "g choices"
        have hl1 : low + i + 1 ≤ 13 := by omega
        refine ⟨many, size, low + i + 1, ?_, by omega, by omega, hmany, hl1, fun ks M2 hE2 hF2 => ?_⟩
        · have e1 : ((size + 1 : Nat) : Int) - 1 = (size : Nat) := by omega
          have e2 : (low : Int) + (i : Int) + 1 = ((low + i + 1 : Nat) : Int) := by omega
          rw [e1, e2]
        have hkl := hF2.len
        have hcl2 := choicesF_len (many := many) (by omega) (k := size) (low := low + i + 1)
        have h13 : 13 ^ size ≤ 13 ^ 3 := Nat.pow_le_pow_right (by decide) (by omega)
        refine ⟨_, rfl, fun L hL => ?_⟩
        have hcL : c ≠ L := mne (hE2 c _ hc) hL
        refine ⟨fun j acc M3 => ∃ ls' : List Addr, acc = ls'.map D.ref ∧ Ext M2 M3 ∧ L ∉ ls' ∧ c ∉ ls' ∧ Fresh M M3 ls' (((choicesF many size (low + i + 1)).take j).map ((low + i) :: ·)), ⟨[], rfl, Ext.new hL, by simp, by simp, .nil⟩, ?_, ?_⟩
        · rintro j d acc M3 hd ⟨ls', rfl, hE3, hL3, hc3, hF3⟩ hM
          rw [List.getElem?_map] at hd
          obtain ⟨l, hl, rfl⟩ := Option.map_eq_some_iff.mp hd
          obtain ⟨x, hx, _, hlx⟩ := hF2.get hl
          have hxl := choicesF_mem (List.mem_of_getElem? hx)
          refine fun s1 H1 C1 cl1 fp1 => txs_nil (iteT fun s2 H2 C2 cl2 fp2 => ?_)
          wtm_at "gb choices"
          refine ox_catLM IsL.fz (IsL.ce (hE3 _ _ hlx)) ?_ fun p fp => ?_
          · rw [List.length_map]
            exact Nat.le_trans (by simp; omega : _ ≤ 4) (by decide)
          have hpL : p ≠ L := mnes hM fp
          have hpc : p ≠ c := mnes (hE3 _ _ (hE2 _ _ hc)) fp
          refine ⟨by rw [mupd_ne (Ne.symm hpL)]; exact hM, ?_, ls' ++ [p], by rw [List.map_append]; rfl, ?_, ?_, ?_, ?_⟩
          · have hl' := hF3.len
            rw [List.length_map, List.length_take] at hl'
            rw [List.length_map]
            exact Nat.lt_of_le_of_lt (by omega : _ ≤ 13 ^ 3) (by decide)
          · intro a o ha
            have h1 := hE3 a o ha
            rw [mupd_ne (mne ha hL), mupd_ne (mne h1 fp)]
            exact h1
          · simp only [List.mem_append, List.mem_singleton, not_or]
            exact ⟨hL3, Ne.symm hpL⟩
          · simp only [List.mem_append, List.mem_singleton, not_or]
            exact ⟨hc3, Ne.symm hpc⟩
          · rw [List.take_add_one, hx, Option.toList_some, List.map_append]
            refine Fresh.app (hF3.mono fun a o ha q => ?_) (.cons (hE.free (hE2.free (hE3.free fp))) ?_ .nil)
            · rw [mupd_ne (ne_of_mem ha hL3), mupd_ne (mne q fp)]
              exact q
            · rw [mupd_ne hpL, mupd_same]
              rfl
        · rintro acc M3 ⟨ls', rfl, hE3, hL3, hc3, hF3⟩ hM
          rw [List.length_map, hkl, List.take_length] at hF3
          have hl0 := hF.len
          have hl3 := hF3.len
          have hcE : (mdel M3 L) c = some (.lst (ls.map D.ref)) := by
            unfold mdel
            rw [if_neg hcL]
            exact hE3 _ _ (hE2 _ _ hc)
          refine ax_nil (mx_extend hcE IsL.fz (fun z => by cases z) ?_ ?_)
          · have hq : (((List.range i).map (low + ·)).flatMap fun n => (choicesF many size (n + 1)).map (n :: ·)).length ≤ 12 * 13 ^ 3 := by
              refine Nat.le_trans (flatMap_len (c := 13 ^ 3) fun n _ => by
                rw [List.length_map]
                exact Nat.le_trans (choicesF_len (by omega)) h13) ?_
              rw [List.length_map, List.length_range]
              exact Nat.mul_le_mul_right _ (by omega)
            rw [List.length_map, List.length_map, hl0, hl3, List.length_map]
            exact Nat.le_trans (by omega : _ ≤ 13 * 13 ^ 3) (by decide)
          · have del : ∀ a o, a ≠ L → M3 a = some o → mdel M3 L a = some o := fun a o ha h => by
              unfold mdel
              rw [if_neg ha]
              exact h
            refine ⟨_, _, ls ++ ls', rfl, ?_, by rw [mupd_same, List.map_append], ?_, ?_⟩
            · intro a o ha
              rw [mupd_ne (mne ha fc)]
              exact del a o (mne (hE2 _ _ (hE a o ha)) hL) (hE3 _ _ (hE2 _ _ (hE a o ha)))
            · simp only [List.mem_append, not_or]
              exact ⟨hcl, hc3⟩
            · rw [List.range_succ, List.map_append, List.flatMap_append]
              refine Fresh.app (hF.mono fun a o ha q => ?_) ?_
              · rw [mupd_ne (ne_of_mem ha hcl)]
                exact del a o (mne (hE2 _ _ q) hL) (hE3 _ _ (hE2 _ _ q))
              · have e : ([i].map (low + ·)).flatMap (fun n => (choicesF many size (n + 1)).map (n :: ·)) = (choicesF many size (low + i + 1)).map ((low + i) :: ·) := by simp
                rw [e]
                refine hF3.mono fun a o ha q => ?_
                rw [mupd_ne (ne_of_mem ha hc3)]
                exact del a o (ne_of_mem ha hL3) q
      · rintro G' M' ⟨a4, a5, ls, rfl, hE, hc, hcl, hF⟩
        refine sxs_one (sx_ret (ex_freeze ?_))
        wtm_at "g choices"
        refine ⟨c, _, rfl, hc, ?_⟩
        have hn : (rangeD (low : Int) ((many : Int) - (low : Int)).toNat).length = many - low := by rw [rangeD_len]; omega
        rw [hn] at hF
        refine k ls _ (Ext.del fc hE) (hF.mono fun a o ha q => ?_)
        unfold mdel
        rw [if_neg (ne_of_mem ha hcl)]
        exact q
  induction n with
  | zero => exact key 0 (.inl rfl)
  | succ n ih => exact key (n + 1) (.inr ⟨n, rfl, ⟨f, fd, _, ih, mf, Fn.kp, bd⟩⟩)
theorem ok_choices {f : Addr} {fd : FuncData} (Fn : Fun K "choices" "choices" s_choices f fd) (mf : mg "choices" = some (.ref f)) (zr : mg "range" = none) : FnOk P w K mg base CX0 4 f fd ["many", "size", "low"] (lift K (spChoices 3)) := by
  exact rec_choices Fn mf zr 3
end

/-! ### the fewest losses -/
def keepS (ss : List (Int × Nat)) (lost : List Nat) : List (Int × Nat) := (List.range ss.length).filterMap fun k => if k ∈ lost then none else ss[k]?
def weakF (b : List Cmd) (d : Int) (ss : List (Int × Nat)) (most : Nat) : Option (List Nat) := (List.range (most + 1)).findSome? fun size => (choicesF ss.length size 0).find? fun lost => !allDone b d (keepS ss lost)
theorem find_first {α : Type} {p : α → Bool} : ∀ {l : List α} {j : Nat} {x : α}, (∀ y ∈ l.take j, p y = false) → l[j]? = some x → p x = true → l.find? p = some x
  | [], _, _, _, h, _ => by simp at h
  | y :: l, 0, x, _, h, hp => by
    have e : y = x := by simpa using h
    rw [List.find?_cons, e, hp]
  | y :: l, j + 1, x, hn, h, hp => by
    have h1 : p y = false := hn y (by simp)
    rw [List.find?_cons, h1]
    exact find_first (fun z hz => hn z (by rw [List.take_succ_cons]; exact List.mem_cons_of_mem _ hz)) (by simpa using h) hp
theorem findSome_first {α β : Type} {f : α → Option β} : ∀ {l : List α} {j : Nat} {x : α} {y : β}, (∀ z ∈ l.take j, f z = none) → l[j]? = some x → f x = some y → l.findSome? f = some y
  | [], _, _, _, _, h, _ => by simp at h
  | z :: l, 0, x, y, _, h, hp => by
    have e : z = x := by simpa using h
    rw [List.findSome?_cons, e, hp]
  | z :: l, j + 1, x, y, hn, h, hp => by
    have h1 : f z = none := hn z (by simp)
    rw [List.findSome?_cons, h1]
    exact findSome_first (fun u hu => hn u (by rw [List.take_succ_cons]; exact List.mem_cons_of_mem _ hu)) (by simpa using h) hp
def spWeak : DSp := fun ds M Q => ∃ (b : List Cmd) (d : Int) (ss : List (Int × Nat)) (most : Nat), ds = [encB b, .int d, .lst (ss.map encSd), .int most] ∧ BookOk b ∧ 1 ≤ d ∧ d ≤ 9 ∧ SendsOk b.length ss ∧ ss.length ≤ 12 ∧ most ≤ 3 ∧
  ∀ M', Ext M M' → (weakF b d ss most = none → Q .non M') ∧ ∀ lost l, weakF b d ss most = some lost → M l = none → M' l = some (.lst (lost.map encN)) → Q (.ref l) M'
section
variable {P : Program} {w : World} {K : PySem.W.Frag} {mg : Str → Option Value} {base : Heap}
theorem ok_weak {f : Addr} {fd : FuncData} (Fn : Fun K "weak" "weak" s_weak f fd) (zl : mg "len" = none) (zr : mg "range" = none) (gM : Cst K mg "MOST_LOST" (.int 3)) (gS : Cst K mg "MOST_SENDS" (.int 12)) (dB : Dfn P w K mg base 3 "need_book" spNeedBook) (dD : Dfn P w K mg base 2 "need_delay" spNeedDelay) (dS : Dfn P w K mg base 2 "need_sends" spNeedSends)
    (dN : Dfn P w K mg base 1 "is_number" spIsNumber) (dC : Dfn P w K mg base 4 "choices" (spChoices 3)) (dA : Dfn P w K mg base 2 "all_done" spAllDone) : FnOk P w K mg base CX0 5 f fd ["book", "delay", "sends", "most"] (lift K spWeak) := by
  refine fun_ok Fn sc_weak (fun ds M Q ⟨_, _, _, _, e, _⟩ => by rw [e]; rfl) fun cdv A outer s H E hr ds M Q h B => ?_
  obtain ⟨b, d, ss, most, rfl, ok, d1, d9, hss, hs12, hm3, k⟩ := h
  wtm_at "b"
  wtm_at "g weak"
  refine ⟨b, rfl, ok, ?_⟩
  wtm_at "g weak"
  refine ⟨d, rfl, d1, d9, ?_⟩
  wtm_at "g weak"
  refine ⟨b, ss, rfl, ok.le, hss, ?_⟩
  wtm_at "g weak"
  refine num_ok (by omega) (by omega) ?_
  wtm_at "g weak"
  rw [List.length_map]
  refine ite_dec (fun h => by omega) (fun _ => ?_)
  wtm_at "g weak"
  refine sx_for PassesOwn.never rfl (fun _ => rfl) ?_
  refine lx_range1 rfl zr rfl ?_
  wtm_at "g weak"
  have eR : ((most : Int) + 1).toNat = most + 1 := by omega
  refine ⟨_, rfl, by omega, by omega, ?_⟩
  rw [eR]
  refine ⟨fun i G' M' => ∃ a4 a5 a6 : Option D, G' = [some (encB b), some (.int d), some (.lst (ss.map encSd)), some (.int most), a4, a5, a6] ∧ Ext M M' ∧ ∀ z, z < i → (choicesF ss.length z 0).find? (fun lost => !allDone b d (keepS ss lost)) = none,
    ⟨_, _, _, rfl, Ext.refl M, fun z hz => by omega⟩, ?_, ?_⟩
  · rintro size dd G' M' hd ⟨a4, a5, a6, rfl, hE, hprev⟩
    obtain ⟨hi, rfl⟩ := rangeD_at hd
    wtm_at "g weak"
    refine sx_for PassesOwn.never rfl (fun _ => rfl) ?_
    refine lx_list ?_
    wtm_at "g weak"
    refine ⟨ss.length, size, 0, ?_, by omega, by omega, hs12, by omega, fun ls M1 hE1 hF => ?_⟩
    · rw [List.length_map]
      simp
    have hll := hF.len
    refine ⟨_, rfl, fun j G2 M2 => ∃ a5 a6 : Option D, G2 = [some (encB b), some (.int d), some (.lst (ss.map encSd)), some (.int most), some (.int (0 + (size : Int))), a5, a6] ∧ Ext M1 M2 ∧ ∀ y ∈ (choicesF ss.length size 0).take j, (!allDone b d (keepS ss y)) = false,
      ⟨_, _, rfl, Ext.refl M1, by simp⟩, ?_, ?_⟩
    · rintro j dd G2 M2 hd2 ⟨a5, a6, rfl, hE2, hno⟩
      rw [List.getElem?_map] at hd2
      obtain ⟨l, hl, rfl⟩ := Option.map_eq_some_iff.mp hd2
      obtain ⟨x, hx, hl0, hlx⟩ := hF.get hl
      wtm_at "g weak"
      wtm_at "lcp weak 0"
      case f => exact fun d => match d with
        | .int k => if k.toNat ∈ x then none else (ss[k.toNat]?).map encSd
        | _ => none
      refine lx_range1 rfl zr rfl ?_
      wtm_at "g weak"
      rw [List.length_map]
      refine ⟨_, rfl, by omega, by omega, ⟨?_, fun dd M3 hd3 hm => ?_⟩, ?_⟩
      · rw [rangeD_len]
        exact Nat.lt_of_le_of_lt (by omega : _ ≤ 12) (by decide)
      · obtain ⟨m, hm0⟩ := List.mem_iff_getElem?.mp hd3
        obtain ⟨hmlt, rfl⟩ := rangeD_at hm0
        have hm1 : m < ss.length := by omega
        refine fun s1 H1 C1 cl1 fp1 => txs_one ?_
        wtm_at "wb weak"
        refine ox_notInC (hm _ _ (hE2 _ _ hlx)) rfl ?_ ?_
        · simp only [List.all_map, List.all_eq_true]
          intro y _; rfl
        have e0 : inD (.int (0 + (m : Int))) (x.map encN) = decide (m ∈ x) := by
          have e1 : x.map encN = (x.map fun n : Nat => (n : Int)).map D.int := by rw [List.map_map]; rfl
          rw [e1, inD_int]
          refine dec_of ?_
          simp only [Int.zero_add, List.mem_map]
          constructor
          · rintro ⟨a, ha, e⟩
            have : a = m := by omega
            exact this ▸ ha
          · exact fun hx => ⟨m, hx, rfl⟩
        rw [e0]
        have et : ((0 : Int) + (m : Int)).toNat = m := by omega
        refine asB_bl (ite_ndec (fun h4 => fun s2 H2 C2 cl2 fp2 => ?_) (fun h4 => ?_))
        · wtm_at "wb weak"
          have es : (ss.map encSd)[m]? = some (encSd ss[m]) := by rw [List.getElem?_map, List.getElem?_eq_getElem hm1]; rfl
          refine ix_l (atI_of (j := m) (by omega) es) ⟨rfl, ?_⟩
          show (if ((0 : Int) + (m : Int)).toNat ∈ x then none else (ss[((0 : Int) + (m : Int)).toNat]?).map encSd) = _
          rw [et, if_neg h4, List.getElem?_eq_getElem hm1]
          rfl
        · refine ⟨rfl, ?_⟩
          show (if ((0 : Int) + (m : Int)).toNat ∈ x then none else (ss[((0 : Int) + (m : Int)).toNat]?).map encSd) = none
          rw [et, if_pos h4]
      have eK : (rangeD 0 (ss.length : Int).toNat).filterMap (fun d => match d with
        | .int k => if k.toNat ∈ x then none else (ss[k.toNat]?).map encSd
        | _ => none) = (keepS ss x).map encSd := by
        unfold rangeD keepS
        rw [List.filterMap_map, List.map_filterMap]
        refine congrArg (fun f => List.filterMap f (List.range ss.length)) (funext fun k => ?_)
        show (if ((0 : Int) + (k : Int)).toNat ∈ x then none else (ss[((0 : Int) + (k : Int)).toNat]?).map encSd) = _
        have et : ((0 : Int) + (k : Int)).toNat = k := by omega
        rw [et]
        by_cases hk : k ∈ x
        · rw [if_pos hk, if_pos hk]; rfl
        · rw [if_neg hk, if_neg hk]
      rw [eK]
      wtm_at "g weak"
      refine ⟨b, d, keepS ss x, rfl, ok, ?_, ?_⟩
      · intro s hs
        unfold keepS at hs
        obtain ⟨k, _, hk⟩ := List.mem_filterMap.mp hs
        split at hk
        · cases hk
        · exact (hss.ok s (List.mem_of_getElem? hk)).2.2
      refine asB_bl (ite_nb (fun hd => ?_) (fun hd => ?_))
      · wtm_at "g weak"
        refine (k M2 (hE.trans (hE1.trans hE2))).2 x l ?_ (hE.free hl0) (hE2 _ _ hlx)
        refine findSome_first (j := size) (x := size) (fun z hz => ?_) ?_ (find_first (j := j) hno hx (by rw [hd]; rfl))
        · obtain ⟨m, hm⟩ := List.mem_iff_getElem?.mp hz
          have hms : m < size := by
            have := (List.getElem?_eq_some_iff.mp hm).1
            rw [List.length_take, List.length_range] at this
            omega
          rw [List.getElem?_take, if_pos hms, List.getElem?_range (by omega)] at hm
          have : z = m := (Option.some.inj hm).symm
          rw [this]
          exact hprev m hms
        · rw [List.getElem?_range (by omega)]
      · wtm_at "g weak"
        refine ⟨_, _, rfl, hE2, fun y hy => ?_⟩
        rw [List.take_add_one, hx] at hy
        rcases List.mem_append.mp hy with hy | hy
        · exact hno y hy
        · have : y = x := by simpa using hy
          rw [this, hd]; rfl
    · rintro G2 M2 ⟨a5, a6, rfl, hE2, hno⟩
      refine ⟨_, _, _, rfl, hE.trans (hE1.trans hE2), fun z hz => ?_⟩
      by_cases e : z = size
      · subst e
        rw [List.length_map, hll, List.take_length] at hno
        rw [List.find?_eq_none]
        intro y hy
        rw [hno y hy]; simp
      · exact hprev z (by omega)
  · rintro G' M' ⟨a4, a5, a6, rfl, hE, hprev⟩
    wtm_at "b"
    wtm_at "g weak"
    refine (k M' hE).1 ?_
    rw [rangeD_len] at hprev
    unfold weakF
    rw [List.findSome?_eq_none_iff]
    intro z hz
    exact hprev z (by simpa using hz)
end

/-! ### least of the fewest (no program here) -/
def lexN : List Nat → List Nat → Bool
  | [], [] => false
  | [], _ :: _ => true
  | _ :: _, [] => false
  | x :: xs, y :: ys => decide (x < y) || (decide (x = y) && lexN xs ys)
theorem lexN_int : ∀ xs ys : List Nat, lexI (xs.map fun n : Nat => (n : Int)) (ys.map fun n : Nat => (n : Int)) = lexN xs ys
  | [], [] => rfl
  | [], _ :: _ => rfl
  | _ :: _, [] => rfl
  | x :: xs, y :: ys => by
    show (decide ((x : Int) < y) || (decide ((x : Int) = y) && lexI _ _)) = (decide (x < y) || (decide (x = y) && lexN xs ys))
    rw [lexN_int xs ys]
    congr 1
    · exact dec_of (by omega)
    · congr 1
      exact dec_of (by omega)
theorem lexN_irr : ∀ xs : List Nat, lexN xs xs = false
  | [] => rfl
  | x :: xs => by simp [lexN, lexN_irr xs]
theorem lexN_asym : ∀ {xs ys : List Nat}, lexN xs ys = true → lexN ys xs = false
  | [], [], h => by cases h
  | [], _ :: _, _ => rfl
  | _ :: _, [], h => by cases h
  | x :: xs, y :: ys, h => by
    simp only [lexN, Bool.or_eq_true, Bool.and_eq_true, decide_eq_true_eq] at h
    simp only [lexN, Bool.or_eq_false_iff, Bool.and_eq_false_iff, decide_eq_false_iff_not]
    rcases h with h | ⟨h1, h2⟩
    · exact ⟨by omega, .inl (by omega)⟩
    · exact ⟨by omega, .inr (lexN_asym h2)⟩
theorem lexN_tri : ∀ {xs ys : List Nat}, xs ≠ ys → lexN xs ys = true ∨ lexN ys xs = true
  | [], [], h => absurd rfl h
  | [], _ :: _, _ => .inl rfl
  | _ :: _, [], _ => .inr rfl
  | x :: xs, y :: ys, h => by
    simp only [lexN, Bool.or_eq_true, Bool.and_eq_true, decide_eq_true_eq]
    by_cases e : x = y
    · subst e
      rcases lexN_tri (xs := xs) (ys := ys) (fun z => h (by rw [z])) with z | z
      · exact .inl (.inr ⟨rfl, z⟩)
      · exact .inr (.inr ⟨rfl, z⟩)
    · omega
/-- fewer, or as many and less -/
def ltS (x y : List Nat) : Bool := decide (x.length < y.length) || (decide (x.length = y.length) && lexN x y)
theorem ltS_tri {x y : List Nat} (h : x ≠ y) : ltS x y = true ∨ ltS y x = true := by
  unfold ltS
  simp only [Bool.or_eq_true, Bool.and_eq_true, decide_eq_true_eq]
  rcases Nat.lt_trichotomy x.length y.length with q | q | q
  · exact .inl (.inl q)
  · rcases lexN_tri h with z | z
    · exact .inl (.inr ⟨q, z⟩)
    · exact .inr (.inr ⟨q.symm, z⟩)
  · exact .inr (.inl q)
theorem ltS_asym {x y : List Nat} (h : ltS x y = true) : ltS y x = false := by
  unfold ltS at *
  simp only [Bool.or_eq_true, Bool.and_eq_true, decide_eq_true_eq] at h
  simp only [Bool.or_eq_false_iff, Bool.and_eq_false_iff, decide_eq_false_iff_not]
  rcases h with h | ⟨h1, h2⟩
  · exact ⟨by omega, .inl (by omega)⟩
  · exact ⟨by omega, .inr (lexN_asym h2)⟩
theorem lexN_trans : ∀ {xs ys zs : List Nat}, lexN xs ys = true → lexN ys zs = true → lexN xs zs = true
  | [], [], _, h, _ => by cases h
  | [], _ :: _, [], _, h => by cases h
  | [], _ :: _, _ :: _, _, _ => rfl
  | _ :: _, [], _, h, _ => by cases h
  | _ :: _, _ :: _, [], _, h => by cases h
  | x :: xs, y :: ys, z :: zs, h, g => by
    simp only [lexN, Bool.or_eq_true, Bool.and_eq_true, decide_eq_true_eq] at h g ⊢
    rcases h with h | ⟨h1, h2⟩
    · rcases g with g | ⟨g1, g2⟩
      · exact .inl (by omega)
      · exact .inl (by omega)
    · rcases g with g | ⟨g1, g2⟩
      · exact .inl (by omega)
      · exact .inr ⟨by omega, lexN_trans h2 g2⟩
theorem ltS_trans {x y z : List Nat} (h : ltS x y = true) (g : ltS y z = true) : ltS x z = true := by
  unfold ltS at *
  simp only [Bool.or_eq_true, Bool.and_eq_true, decide_eq_true_eq] at *
  rcases h with h | ⟨h1, h2⟩
  · rcases g with g | ⟨g1, g2⟩ <;> exact .inl (by omega)
  · rcases g with g | ⟨g1, g2⟩
    · exact .inl (by omega)
    · exact .inr ⟨by omega, lexN_trans h2 g2⟩
theorem mem_choices {n : Nat} : ∀ {k low : Nat} {l : List Nat}, l ∈ choicesF n k low ↔ l.length = k ∧ l.Pairwise (· < ·) ∧ ∀ x ∈ l, low ≤ x ∧ x < n
  | 0, low, l => by
    constructor
    · intro h
      have : l = [] := by simpa [choicesF] using h
      subst this; simp
    · rintro ⟨h, _⟩
      have : l = [] := List.eq_nil_of_length_eq_zero h
      subst this; simp [choicesF]
  | k + 1, low, l => by
    rw [choicesF, List.mem_flatMap]
    constructor
    · rintro ⟨m, hm, h⟩
      obtain ⟨i, hi, rfl⟩ := List.mem_map.mp hm
      obtain ⟨r, hr, rfl⟩ := List.mem_map.mp h
      obtain ⟨h1, h2, h3⟩ := mem_choices.mp hr
      have hi' : i < n - low := by simpa using hi
      refine ⟨by rw [List.length_cons, h1], List.pairwise_cons.mpr ⟨fun y hy => by have := (h3 y hy).1; omega, h2⟩, fun x hx => ?_⟩
      rcases List.mem_cons.mp hx with rfl | hx
      · omega
      · have := h3 x hx; omega
    · rintro ⟨h1, h2, h3⟩
      cases l with
      | nil => cases h1
      | cons m r =>
        obtain ⟨p1, p2⟩ := List.pairwise_cons.mp h2
        have hm := h3 m (by simp)
        refine ⟨m, List.mem_map.mpr ⟨m - low, by simp; omega, by omega⟩, List.mem_map.mpr ⟨r, mem_choices.mpr ⟨by simpa using h1, p2, fun x hx => ⟨p1 x hx, (h3 x (List.mem_cons_of_mem _ hx)).2⟩⟩, rfl⟩⟩
theorem choices_up {n : Nat} : ∀ {k low : Nat}, (choicesF n k low).Pairwise (fun a b => lexN a b = true)
  | 0, _ => by simp [choicesF]
  | k + 1, low => by
    rw [choicesF, List.pairwise_flatMap]
    refine ⟨fun m _ => ?_, ?_⟩
    · rw [List.pairwise_map]
      refine (choices_up (k := k) (low := m + 1)).imp fun {a b} h => ?_
      simp [lexN, h]
    · rw [List.pairwise_map]
      refine List.pairwise_lt_range.imp fun {i j} hij => ?_
      intro x hx y hy
      obtain ⟨r, _, rfl⟩ := List.mem_map.mp hx
      obtain ⟨q, _, rfl⟩ := List.mem_map.mp hy
      simp [lexN]
      omega
def setsF : Nat → List (List Nat)
  | 0 => [[]]
  | n + 1 => setsF n ++ ((setsF n).filter fun l => decide (l.length < 3)).map (· ++ [n])
theorem setsF_len : ∀ {n : Nat}, (setsF n).length ≤ 2 ^ n
  | 0 => by simp [setsF]
  | n + 1 => by
    rw [setsF, List.length_append, List.length_map, Nat.pow_succ]
    have h1 := setsF_len (n := n)
    have h2 := List.length_filter_le (fun l : List Nat => decide (l.length < 3)) (setsF n)
    omega
theorem mem_sets : ∀ {n : Nat} {l : List Nat}, l ∈ setsF n ↔ l.length ≤ 3 ∧ l.Pairwise (· < ·) ∧ ∀ x ∈ l, x < n
  | 0, l => by
    constructor
    · intro h
      have : l = [] := by simpa [setsF] using h
      subst this; simp
    · rintro ⟨_, _, h⟩
      cases l with
      | nil => simp [setsF]
      | cons x l => exact absurd (h x (by simp)) (by omega)
  | n + 1, l => by
    rw [setsF, List.mem_append]
    constructor
    · rintro (h | h)
      · obtain ⟨h1, h2, h3⟩ := mem_sets.mp h
        exact ⟨h1, h2, fun x hx => by have := h3 x hx; omega⟩
      · obtain ⟨r, hr, rfl⟩ := List.mem_map.mp h
        obtain ⟨hr1, hr2⟩ := List.mem_filter.mp hr
        obtain ⟨h1, h2, h3⟩ := mem_sets.mp hr1
        have h4 : r.length < 3 := of_decide_eq_true hr2
        refine ⟨by rw [List.length_append, List.length_singleton]; omega, ?_, ?_⟩
        · rw [List.pairwise_append]
          exact ⟨h2, by simp, fun a ha b hb => by rw [List.mem_singleton.mp hb]; exact h3 a ha⟩
        · intro x hx
          rcases List.mem_append.mp hx with hx | hx
          · have := h3 x hx; omega
          · rw [List.mem_singleton.mp hx]; omega
    · rintro ⟨h1, h2, h3⟩
      by_cases hn : n ∈ l
      · right
        -- n is the last
        obtain ⟨r, x, e⟩ : ∃ r x, l = r ++ [x] := by
          cases hl : l.reverse with
          | nil => rw [List.reverse_eq_nil_iff] at hl; subst hl; cases hn
          | cons x r => exact ⟨r.reverse, x, by rw [← List.reverse_reverse l, hl, List.reverse_cons]⟩
        subst e
        rw [List.pairwise_append] at h2
        have ex : x = n := by
          rcases List.mem_append.mp hn with hn | hn
          · have := h2.2.2 n hn x (by simp)
            have := h3 x (by simp)
            omega
          · exact (List.mem_singleton.mp hn).symm
        subst ex
        have hl3 : r.length < 3 := by rw [List.length_append, List.length_singleton] at h1; omega
        refine List.mem_map.mpr ⟨r, List.mem_filter.mpr ⟨mem_sets.mpr ⟨by omega, h2.1, fun y hy => h2.2.2 y hy _ (by simp)⟩, decide_eq_true hl3⟩, rfl⟩
      · left
        refine mem_sets.mpr ⟨h1, h2, fun x hx => ?_⟩
        have h4 := h3 x hx
        have : x ≠ n := fun e => hn (e ▸ hx)
        omega
/-- what the law keeps -/
def bestF (P : List Nat → Bool) (most : Nat) (due : Option (List Nat)) (lost : List Nat) : Option (List Nat) :=
  if lost.length ≤ most ∧ (due = none ∨ ∃ y, due = some y ∧ ltS lost y = true) then (if P lost = true then some lost else due) else due
structure Best (P : List Nat → Bool) (most : Nat) (xs : List (List Nat)) (r : Option (List Nat)) : Prop where
  no : r = none → ∀ x ∈ xs, x.length ≤ most → P x = false
  yes : ∀ y, r = some y → y ∈ xs ∧ y.length ≤ most ∧ P y = true ∧ ∀ x ∈ xs, x.length ≤ most → P x = true → ltS x y = false
theorem best_step {P : List Nat → Bool} {most : Nat} {xs : List (List Nat)} {r : Option (List Nat)} {x : List Nat} (h : Best P most xs r) : Best P most (xs ++ [x]) (bestF P most r x) := by
  unfold bestF
  by_cases hc : x.length ≤ most ∧ (r = none ∨ ∃ y, r = some y ∧ ltS x y = true)
  · rw [if_pos hc]
    by_cases hp : P x = true
    · rw [if_pos hp]
      refine ⟨fun z => (by cases z), fun y hy => ?_⟩
      have e : x = y := Option.some.inj hy
      subst e
      refine ⟨by simp, hc.1, hp, fun z hz hl hpz => ?_⟩
      rcases List.mem_append.mp hz with hz | hz
      · rcases hc.2 with h0 | ⟨y, hy, hlt⟩
        · rw [h.no h0 z hz hl] at hpz; cases hpz
        · have h4 := (h.yes y hy).2.2.2 z hz hl hpz
          by_cases q : ltS z x = true
          · rw [ltS_trans q hlt] at h4; cases h4
          · simpa using q
      · rw [List.mem_singleton.mp hz]
        unfold ltS
        simp [lexN_irr]
    · rw [if_neg hp]
      have hp' : P x = false := by simpa using hp
      refine ⟨fun z y hy hl => ?_, fun y hy => ?_⟩
      · rcases List.mem_append.mp hy with hy | hy
        · exact h.no z y hy hl
        · rw [List.mem_singleton.mp hy]; exact hp'
      · obtain ⟨h1, h2, h3, h4⟩ := h.yes y hy
        refine ⟨List.mem_append_left _ h1, h2, h3, fun z hz hl hpz => ?_⟩
        rcases List.mem_append.mp hz with hz | hz
        · exact h4 z hz hl hpz
        · rw [List.mem_singleton.mp hz, hp'] at hpz; cases hpz
  · rw [if_neg hc]
    refine ⟨fun z y hy hl => ?_, fun y hy => ?_⟩
    · rcases List.mem_append.mp hy with hy | hy
      · exact h.no z y hy hl
      · rw [List.mem_singleton.mp hy] at hl ⊢
        exact absurd ⟨hl, .inl z⟩ hc
    · obtain ⟨h1, h2, h3, h4⟩ := h.yes y hy
      refine ⟨List.mem_append_left _ h1, h2, h3, fun z hz hl hpz => ?_⟩
      rcases List.mem_append.mp hz with hz | hz
      · exact h4 z hz hl hpz
      · rw [List.mem_singleton.mp hz] at hl ⊢
        by_cases q : ltS x y = true
        · exact absurd ⟨hl, .inr ⟨y, hy, q⟩⟩ hc
        · simpa using q
theorem best_fold {P : List Nat → Bool} {most : Nat} : ∀ {xs ys : List (List Nat)} {r : Option (List Nat)}, Best P most xs r → Best P most (xs ++ ys) (ys.foldl (bestF P most) r)
  | xs, [], r, h => by rw [List.append_nil]; exact h
  | xs, y :: ys, r, h => by
    have z := best_fold (ys := ys) (best_step (x := y) h)
    rw [List.append_assoc] at z
    exact z
theorem best_weak {P : List Nat → Bool} {n most : Nat} (hm : most ≤ 3) : (setsF n).foldl (bestF P most) none = (List.range (most + 1)).findSome? fun size => (choicesF n size 0).find? P := by
  have hB : Best P most (setsF n) ((setsF n).foldl (bestF P most) none) := by
    have z := best_fold (P := P) (most := most) (xs := []) (ys := setsF n) (r := none) ⟨fun _ x hx => (by cases hx), fun y hy => (by cases hy)⟩
    rwa [List.nil_append] at z
  have toC : ∀ {x}, x ∈ setsF n → x ∈ choicesF n x.length 0 := fun {x} hx => by
    obtain ⟨_, h2, h3⟩ := mem_sets.mp hx
    exact mem_choices.mpr ⟨rfl, h2, fun y hy => ⟨Nat.zero_le _, h3 y hy⟩⟩
  have toS : ∀ {x k}, x ∈ choicesF n k 0 → k ≤ most → x ∈ setsF n ∧ x.length = k := fun {x k} hx hk => by
    obtain ⟨h1, h2, h3⟩ := mem_choices.mp hx
    exact ⟨mem_sets.mpr ⟨by omega, h2, fun y hy => (h3 y hy).2⟩, h1⟩
  cases q : (List.range (most + 1)).findSome? fun size => (choicesF n size 0).find? P with
  | none =>
    rw [List.findSome?_eq_none_iff] at q
    cases r : (setsF n).foldl (bestF P most) none with
    | none => rfl
    | some y =>
      rw [r] at hB
      obtain ⟨h1, h2, h3, _⟩ := hB.yes y rfl
      have z := q y.length (by simp; omega)
      rw [List.find?_eq_none] at z
      exact absurd h3 (z y (toC h1))
  | some w =>
    obtain ⟨l1, a, l2, hl, hfa, hl1⟩ := List.findSome?_eq_some_iff.mp q
    have ha : a ≤ most := by
      have : a ∈ List.range (most + 1) := by rw [hl]; simp
      simp at this; omega
    obtain ⟨hPw, as, bs, hc, has⟩ := List.find?_eq_some_iff_append.mp hfa
    have hwc : w ∈ choicesF n a 0 := by rw [hc]; simp
    obtain ⟨hws, hwl⟩ := toS hwc ha
    cases r : (setsF n).foldl (bestF P most) none with
    | none =>
      rw [r] at hB
      have z := hB.no rfl w hws (by omega)
      rw [hPw] at z; cases z
    | some y =>
      rw [r] at hB
      obtain ⟨h1, h2, h3, h4⟩ := hB.yes y rfl
      by_cases e : y = w
      · rw [e]
      · exfalso
        have h5 := h4 w hws (by omega) hPw
        rcases ltS_tri e with z | z
        · -- y is ahead of w
          unfold ltS at z
          simp only [Bool.or_eq_true, Bool.and_eq_true, decide_eq_true_eq] at z
          rcases z with z | ⟨z1, z2⟩
          · -- a smaller size
            have hy1 : y.length ∈ l1 := by
              have e1 : (List.range (most + 1))[l1.length]? = some a := by rw [hl]; simp
              have e2 : l1.length = a := by
                have hlt := (List.getElem?_eq_some_iff.mp e1).1
                rw [List.length_range] at hlt
                rw [List.getElem?_range hlt] at e1
                exact Option.some.inj e1
              have e3 : (List.range (most + 1))[y.length]? = some y.length := List.getElem?_range (by omega)
              rw [hl, List.getElem?_append_left (by omega)] at e3
              exact List.mem_of_getElem? e3
            have z6 := hl1 _ hy1
            rw [List.find?_eq_none] at z6
            exact z6 y (toC h1) h3
          · have hyc : y ∈ choicesF n a 0 := by rw [← hwl, ← z1]; exact toC h1
            have up := choices_up (n := n) (k := a) (low := 0)
            rw [hc] at hyc up
            rw [List.pairwise_append] at up
            rcases List.mem_append.mp hyc with hy | hy
            · have := has y hy
              rw [h3] at this; cases this
            · rcases List.mem_cons.mp hy with hy | hy
              · exact e hy
              · have := (List.pairwise_cons.mp up.2.1).1 y hy
                rw [lexN_asym z2] at this; cases this
        · rw [z] at h5; cases h5

/-! ### the craft -/
theorem set_cut {s : List Wd} {n : Nat} {w : Wd} (h : n < s.length) : FL.cutD (s.map encW) none (some (n : Int)) ++ [encW w] ++ FL.cutD (s.map encW) (some ((n : Int) + 1)) none = (s.set n w).map encW := by
  have e1 : ((n : Int) + 1) = ((n + 1 : Nat) : Int) := by omega
  rw [e1, cutD_to (by rw [List.length_map]; omega), cutD_from (by rw [List.length_map]; omega), List.set_eq_take_append_cons_drop, if_pos h]
  simp [List.map_take, List.map_drop]
theorem cut_len {ds : List D} {lo hi : Option Int} : (FL.cutD ds lo hi).length ≤ ds.length := by
  unfold FL.cutD
  rw [List.length_take, List.length_drop]
  omega
def spHeard : DSp := fun ds M Q => ∃ (s : List Wd) (l : Lt), ds = [encSt s, encLt l] ∧ s.length ≤ 8 ∧ l.2 < s.length ∧ Q (encSt (heardF s l)) M
def spGone : DSp := fun ds M Q => ∃ (b : List Cmd) (s : List Wd) (t : Int), ds = [encB b, encSt s, .int t] ∧ BookOk b ∧ s.length = b.length ∧ ∀ M', Ext M M' → Q (encSt (goneF b t s)) M'
def spBeaten : DSp := fun ds M Q => ∃ (b : List Cmd) (s : List Wd) (ls : List Lt) (ld : D) (t : Int), ds = [encB b, encSt s, ld, .int t] ∧ BookOk b ∧ s.length = b.length ∧ IsL M ld (ls.map encLt) ∧ (∀ l ∈ ls, l.2 < b.length) ∧ ∀ M', Ext M M' → Q (encSt (beatenF b s ls t)) M'
def spBlank : DSp := fun ds M Q => ∃ b : List Cmd, ds = [encB b] ∧ BookOk b ∧ Q (encSt (List.replicate b.length .none)) M
def spNeedLetters : DSp := fun ds M Q => ∃ (b : List Cmd) (ls : List Lt) (ld : D), ds = [encB b, ld] ∧ BookOk b ∧ IsL M ld (ls.map encLt) ∧ (∀ l ∈ ls, l.2 < b.length) ∧ Q .non M
section
variable {P : Program} {w : World} {K : PySem.W.Frag} {mg : Str → Option Value} {base : Heap}
theorem ok_heard {f : Addr} {fd : FuncData} (Fn : Fun K "heard" "heard" s_heard f fd) (gC : Cst K mg "CMD" (.str "cmd")) (gN : Cst K mg "NONE" (.str "none")) (gH : Cst K mg "HELD" (.str "held")) (gB : Cst K mg "BACK" (.str "back")) :
    FnOk P w K mg base CX0 1 f fd ["state", "letter"] (lift K spHeard) := by
  refine fun_ok Fn sc_heard (fun ds M Q ⟨_, _, e, _⟩ => by rw [e]; rfl) fun cdv A outer sh H E hr ds M Q h B => ?_
  obtain ⟨s, l, rfl, h8, hn, k⟩ := h
  have hq : (s.map encW)[l.2]? = some (encW (s.getD l.2 .none)) := encW_at hn
  have big : ∀ {a b c : List D}, a.length ≤ 8 → b.length ≤ 8 → a.length + b.length ≤ sizeLine := fun h1 h2 => Nat.le_trans (by omega : _ ≤ 16) (by decide)
  have stay : hearW l.1 (s.getD l.2 .none) = s.getD l.2 .none → heardF s l = s := fun e => by
    unfold heardF; rw [e]; exact set_getD hn
  have fin : ∀ w : Wd, hearW l.1 (s.getD l.2 .none) = w → Q (.tup (FL.cutD (s.map encW) none (some (l.2 : Int)) ++ [encW w] ++ FL.cutD (s.map encW) (some ((l.2 : Int) + 1)) none)) M := fun w e => by
    rw [set_cut hn]
    have z : heardF s l = s.set l.2 w := by unfold heardF; rw [e]
    rw [← z]
    exact k
  obtain ⟨bk, n⟩ := l
  unfold encSt encLt encN at *
  have hn' : n < s.length := hn
  have c1 : (FL.cutD (s.map encW) none (some (n : Int))).length ≤ 8 := Nat.le_trans cut_len (by rw [List.length_map]; exact h8)
  have c2 : (FL.cutD (s.map encW) (some ((n : Int) + 1)) none).length ≤ 8 := Nat.le_trans cut_len (by rw [List.length_map]; exact h8)
  wtm_at "b"
  cases bk with
  | true =>
    have ew : Lt.wd (true, n) = "back" := rfl
    rw [ew]
    wtm_at "g heard"
    refine ix_t (atI_of rfl hq) ?_
    wtm_at "g heard"
    refine ox_inW (ws := [.none, .held]) ?_
    refine asB_bl (ite_dec (fun h1 => ?_) (fun h1 => ?_))
    · have h1' : s.getD n .none = .none ∨ s.getD n .none = .held := by simpa using h1
      wtm_at "g heard"
      refine ox_catT (es := [_]) (Nat.le_trans (Nat.add_le_add c1 (Nat.le_refl _)) (by decide : 8 + 1 ≤ sizeLine)) ?_
      wtm_at "g heard"
      refine ox_catT (by rw [List.length_append]; exact Nat.le_trans (Nat.add_le_add (Nat.add_le_add c1 (Nat.le_refl _)) c2) (by decide : 8 + 1 + 8 ≤ sizeLine)) ?_
      refine fin .back ?_
      show (if true = true then _ else _) = _
      rw [if_pos rfl, if_pos h1']
    · wtm_at "g heard"
      rw [stay ?_] at k
      · exact k
      show (if true = true then _ else _) = _
      rw [if_pos rfl, if_neg (by simpa using h1)]
  | false =>
    have ew : Lt.wd (false, n) = "cmd" := rfl
    rw [ew]
    wtm_at "g heard"
    refine ix_t (atI_of rfl hq) ?_
    wtm_at "g heard"
    refine ox_eqW .none ?_
    refine asB_bl (ite_dec (fun h1 => ?_) (fun h1 => ?_))
    · wtm_at "g heard"
      refine ox_catT (es := [_]) (Nat.le_trans (Nat.add_le_add c1 (Nat.le_refl _)) (by decide : 8 + 1 ≤ sizeLine)) ?_
      wtm_at "g heard"
      refine ox_catT (by rw [List.length_append]; exact Nat.le_trans (Nat.add_le_add (Nat.add_le_add c1 (Nat.le_refl _)) c2) (by decide : 8 + 1 + 8 ≤ sizeLine)) ?_
      refine fin .held ?_
      show (if false = true then _ else _) = _
      rw [if_neg (by simp), if_pos h1]
    · wtm_at "g heard"
      rw [stay ?_] at k
      · exact k
      show (if false = true then _ else _) = _
      rw [if_neg (by simp), if_neg h1]
theorem ok_gone_on {f : Addr} {fd : FuncData} (Fn : Fun K "gone_on" "gone_on" s_gone_on f fd) (ze : mg "enumerate" = none) (zL : mg "list" = none) (zt : mg "tuple" = none) (gH : Cst K mg "HELD" (.str "held")) (gL : Cst K mg "LATE" (.str "late")) (gD : Cst K mg "DONE" (.str "done")) :
    FnOk P w K mg base CX0 1 f fd ["book", "state", "beat"] (lift K spGone) := by
  refine fun_ok Fn sc_gone_on (fun ds M Q ⟨_, _, _, e, _⟩ => by rw [e]; rfl) fun cdv A outer sh H E hr ds M Q h B => ?_
  obtain ⟨b, s, t, rfl, ok, hsl, k⟩ := h
  have h8 := ok.le
  unfold encSt encB
  wtm_at "b"
  wtm_at "g gone_on"
  refine bx_listTM fun c fc => ?_
  wtm_at "g gone_on"
  have eB : goneF b t s = goneGo t b 0 s := rfl
  rw [eB] at k
  refine sx_for PassesOwn.never rfl (fun _ => rfl) ?_
  refine lx_enumT rfl ze rfl ⟨_, _, _, rfl⟩ ?_
  wtm_at "g gone_on"
  refine ⟨_, rfl, fun i G' M' => ∃ (q : List Wd) (a4 a5 a6 a7 a8 a9 : Option D), G' = [some (.tup (b.map Cmd.enc)), some (.tup (s.map encW)), some (.int t), some (.ref c), a4, a5, a6, a7, a8, a9] ∧ q.length = b.length ∧ goneGo t (b.drop i) i q = goneGo t b 0 s ∧ M' = mupd M c (.lst (q.map encW)),
      ⟨s, _, _, _, _, _, _, rfl, hsl, rfl, rfl⟩, ?_, ?_⟩
  · rintro i d G' M' hd ⟨q, a4, a5, a6, a7, a8, a9, rfl, hql, hg, rfl⟩
    obtain ⟨x, hx, rfl⟩ := enumD_at hd
    rw [List.getElem?_map] at hx
    obtain ⟨cm, hc, rfl⟩ := Option.map_eq_some_iff.mp hx
    have hib : i < b.length := (List.getElem?_eq_some_iff.mp hc).1
    have hbc : b[i] = cm := by
      rw [List.getElem?_eq_getElem hib] at hc
      exact Option.some.inj hc
    have cok := ok.ok i cm hc
    have hwl := up_len cok.up cok.lt
    have hq : (q.map encW)[i]? = some (encW (q.getD i .none)) := encW_at (by omega)
    rw [List.drop_eq_getElem_cons hib, hbc, goneGo] at hg
    have eone : goneOne cm t q (q.getD i .none) = if q.getD i .none = .held then (if cm.til < t then .late else if cm.when ≤ t ∧ ∀ j ∈ cm.wants, q.getD j .none = .done then .done else .held) else q.getD i .none := rfl
    have stay : goneOne cm t q (q.getD i .none) = q.getD i .none → goneGo t (b.drop (i + 1)) (i + 1) q = goneGo t b 0 s := fun e => by
      rw [e, set_getD (by omega)] at hg; exact hg
    unfold Cmd.enc
    wtm_at "g gone_on"
    refine ix_c mupd_same (atI_of rfl hq) ?_
    wtm_at "g gone_on"
    refine ox_eqW .held ?_
    refine asB_bl (ite_dec (fun h1 => ?_) (fun h1 => ?_))
    · rw [if_pos h1] at eone
      wtm_at "g gone_on"
      refine ite_dec (fun h2 => ?_) (fun h2 => ?_)
      · rw [if_pos h2] at eone
        wtm_at "g gone_on"
        refine gx_sub (fun _ => rfl) ?_
        wtm_at "g gone_on"
        refine ⟨c, _, _, i, rfl, rfl, mupd_same, ixN_nat (by rw [List.length_map]; omega), ?_⟩
        refine ⟨q.set i .late, _, _, _, _, _, _, rfl, by simp [hql], by rw [← eone]; exact hg, ?_⟩
        rw [mupd_mupd, List.map_set]; rfl
      · rw [if_neg h2] at eone
        wtm_at "g gone_on"
        refine ite_dec (fun h3 => ?_) (fun h3 => ?_)
        · wtm_at "g gone_on"
          wtm_at "lcp gone_on 0"
          case f => exact fun d => match d with
            | .int j => if q.getD j.toNat .none = .done then none else some d
            | _ => none
          refine lx_tup ?_
          wtm_at "g gone_on"
          refine ⟨_, rfl, ⟨?_, fun d M' hd hm => ?_⟩, ?_⟩
          · rw [List.length_map]
            exact Nat.lt_of_le_of_lt (by omega : _ ≤ 8) (by decide)
          · obtain ⟨n, hn, rfl⟩ := List.mem_map.mp hd
            have hlt := cok.lt n hn
            refine fun s1 H1 C1 cl1 fp1 => txs_one ?_
            wtm_at "wb gone_on"
            refine ix_c (hm c _ mupd_same) (atI_of rfl (encW_at (by omega))) ?_
            wtm_at "wb gone_on"
            refine ox_neW .done ?_
            refine asB_bl (ite_ndec (fun h4 => fun s2 H2 C2 cl2 fp2 => ?_) (fun h4 => ?_))
            · wtm_at "wb gone_on"
              refine ⟨rfl, ?_⟩
              show (if q.getD (n : Int).toNat .none = .done then none else some _) = _
              rw [Int.toNat_natCast, if_neg h4]
            · refine ⟨rfl, ?_⟩
              show (if q.getD (n : Int).toNat .none = .done then none else some _) = _
              rw [Int.toNat_natCast, if_pos h4]
          generalize hrest : (cm.wants.map encN).filterMap (fun d => match d with
            | .int j => if q.getD j.toNat .none = .done then none else some d
            | _ => none) = rs
          have hall : rs = [] ↔ ∀ j ∈ cm.wants, q.getD j .none = .done := by
            rw [← hrest, List.filterMap_eq_nil_iff]
            constructor
            · intro z j hj
              have := z (encN j) (List.mem_map.mpr ⟨j, hj, rfl⟩)
              have e : (if q.getD (j : Int).toNat .none = .done then none else some (encN j)) = none := this
              rw [Int.toNat_natCast] at e
              by_cases h5 : q.getD j .none = .done
              · exact h5
              · rw [if_neg h5] at e; cases e
            · intro z d hd
              obtain ⟨j, hj, rfl⟩ := List.mem_map.mp hd
              show (if q.getD (j : Int).toNat .none = .done then none else some (encN j)) = none
              rw [Int.toNat_natCast, if_pos (z j hj)]
          have hints : ∀ d ∈ rs, d.okE = true ∧ d.dep ≤ 0 := by
            intro d hd
            rw [← hrest] at hd
            obtain ⟨a, ha, hz⟩ := List.mem_filterMap.mp hd
            obtain ⟨j, hj, rfl⟩ := List.mem_map.mp ha
            have e : (if q.getD (j : Int).toNat .none = .done then none else some (encN j)) = some d := hz
            split at e
            · cases e
            · cases e; exact ⟨rfl, Nat.le_refl 0⟩
          clear hrest
          wtm_at "g gone_on"
          refine ox_eq0 (n := 0) hr.units hints (by decide) ?_
          by_cases h5 : ∀ j ∈ cm.wants, q.getD j .none = .done
          · have e5 : rs = [] := hall.mpr h5
            subst e5
            rw [if_pos ⟨h3, h5⟩] at eone
            wtm_at "g gone_on"
            refine gx_sub (fun _ => rfl) ?_
            wtm_at "g gone_on"
            refine ⟨c, _, _, i, rfl, rfl, mupd_same, ixN_nat (by rw [List.length_map]; omega), ?_⟩
            refine ⟨q.set i .done, _, _, _, _, _, _, rfl, by simp [hql], by rw [← eone]; exact hg, ?_⟩
            rw [mupd_mupd, List.map_set]; rfl
          · have e5 : rs ≠ [] := fun z => h5 (hall.mp z)
            obtain ⟨r0, rs', rfl⟩ := List.exists_cons_of_ne_nil e5
            rw [if_neg (fun z => h5 z.2)] at eone
            wtm_at "g gone_on"
            exact ⟨q, _, _, _, _, _, _, rfl, hql, stay (by rw [eone, h1]), rfl⟩
        · rw [if_neg (fun z => h3 z.1)] at eone
          wtm_at "g gone_on"
          exact ⟨q, _, _, _, _, _, _, rfl, hql, stay (by rw [eone, h1]), rfl⟩
    · rw [if_neg h1] at eone
      wtm_at "g gone_on"
      exact ⟨q, _, _, _, _, _, _, rfl, hql, stay eone, rfl⟩
  · rintro G' M' ⟨q, a4, a5, a6, a7, a8, a9, rfl, hql, hg, rfl⟩
    rw [enumD_len, List.length_map, List.drop_length] at hg
    have e : q = goneGo t b 0 s := hg
    wtm_at "b"
    wtm_at "g gone_on"
    refine bx_tupC mupd_same ?_
    rw [e]
    exact k _ (Ext.new fc)
theorem ok_beaten {f : Addr} {fd : FuncData} (Fn : Fun K "beaten" "beaten" s_beaten f fd) (dH : Dfn P w K mg base 1 "heard" spHeard) (dG : Dfn P w K mg base 1 "gone_on" spGone) :
    FnOk P w K mg base CX0 2 f fd ["book", "state", "letters", "beat"] (lift K spBeaten) := by
  refine fun_ok Fn sc_beaten (fun ds M Q ⟨_, _, _, _, _, e, _⟩ => by rw [e]; rfl) fun cdv A outer sh H E hr ds M Q h B => ?_
  obtain ⟨b, s, ls, ld, t, rfl, ok, hsl, hL, hls, k⟩ := h
  have h8 := ok.le
  wtm_at "b"
  refine sx_forM PassesOwn.never rfl (fun _ => rfl) ?_
  refine lxm_isL ?_
  wtm_at "g beaten"
  refine ⟨_, hL, fun i G' M' => ∃ a4 : Option D, G' = [some (encB b), some (encSt ((ls.take i).foldl heardF s)), some ld, some (.int t), a4] ∧ M' = M, ⟨_, rfl, rfl⟩, ?_, ?_, ?_⟩
  · rintro i G' M' ⟨a4, rfl, rfl⟩
    exact hL
  · rintro i d G' M' hd ⟨a4, rfl, rfl⟩
    rw [List.getElem?_map] at hd
    obtain ⟨l, hl, rfl⟩ := Option.map_eq_some_iff.mp hd
    have hn := hls l (List.mem_of_getElem? hl)
    have etk : (ls.take (i + 1)).foldl heardF s = heardF ((ls.take i).foldl heardF s) l := by
      rw [List.take_add_one, hl, List.foldl_append]; rfl
    wtm_at "g beaten"
    refine ⟨_, l, rfl, by rw [foldl_heard_len]; omega, by rw [foldl_heard_len]; omega, ?_⟩
    exact ⟨_, by rw [etk]; rfl, rfl⟩
  · rintro G' M' ⟨a4, rfl, rfl⟩
    rw [List.length_map, List.take_length]
    wtm_at "b"
    wtm_at "g beaten"
    exact ⟨b, _, t, rfl, ok, by rw [foldl_heard_len]; exact hsl, k⟩
theorem ok_blank {f : Addr} {fd : FuncData} (Fn : Fun K "blank" "blank" s_blank f fd) (zl : mg "len" = none) (gN : Cst K mg "NONE" (.str "none")) : FnOk P w K mg base CX0 1 f fd ["book"] (lift K spBlank) := by
  refine fun_ok Fn sc_blank (fun ds M Q ⟨_, e, _⟩ => by rw [e]; rfl) fun cdv A outer sh H E hr ds M Q h B => ?_
  obtain ⟨b, rfl, ok, k⟩ := h
  have h8 := ok.le
  have hp : 0 < b.length := List.length_pos_iff.mpr ok.ne
  unfold encB
  wtm_at "b"
  wtm_at "g blank"
  rw [List.length_map]
  refine ox_repT (by omega) (by omega) ?_
  rw [Int.toNat_natCast]
  unfold encSt at k
  rw [List.map_replicate] at k
  exact k
theorem ok_need_letters {f : Addr} {fd : FuncData} (Fn : Fun K "need_letters" "need_letters" s_need_letters f fd) (ze : mg "enumerate" = none) (zi : mg "isinstance" = none) (zt : mg "tuple" = none) (zl : mg "len" = none) (gC : Cst K mg "CMD" (.str "cmd")) (gB : Cst K mg "BACK" (.str "back")) (dN : Dfn P w K mg base 1 "is_number" spIsNumber) :
    FnOk P w K mg base CX0 2 f fd ["book", "letters"] (lift K spNeedLetters) := by
  refine fun_ok Fn sc_need_letters (fun ds M Q ⟨_, _, _, e, _⟩ => by rw [e]; rfl) fun cdv A outer sh H E hr ds M Q h B => ?_
  obtain ⟨b, ls, ld, rfl, ok, hL, hls, k⟩ := h
  have h8 := ok.le
  unfold encB
  wtm_at "b"
  refine sx_forM PassesOwn.never rfl (fun _ => rfl) ?_
  refine lxm_enumL rfl ze rfl ⟨_, _, _, rfl⟩ ?_
  wtm_at "g need_letters"
  refine ⟨_, hL, fun i G' M' => ∃ a2 a3 a4 : Option D, G' = [some (.tup (b.map Cmd.enc)), some ld, a2, a3, a4] ∧ M' = M, ⟨_, _, _, rfl, rfl⟩, ?_, ?_, ?_⟩
  · rintro i G' M' ⟨_, _, _, rfl, rfl⟩
    exact hL
  · rintro i d G' M' hd ⟨_, _, _, rfl, rfl⟩
    obtain ⟨x, hx, rfl⟩ := enumD_at hd
    rw [List.getElem?_map] at hx
    obtain ⟨l, hl, rfl⟩ := Option.map_eq_some_iff.mp hx
    have hn := hls l (List.mem_of_getElem? hl)
    unfold encLt encN
    have hw : l.wd = "cmd" ∨ l.wd = "back" := by
      unfold Lt.wd
      cases l.1
      · exact .inl rfl
      · exact .inr rfl
    wtm_at "g need_letters"
    refine ox_inT rfl rfl ?_
    have e0 : inD (.str l.wd) [.str "cmd", .str "back"] = true := by
      have z : inD (.str l.wd) ([("cmd" : Str), "back"].map D.str) = decide (l.wd ∈ [("cmd" : Str), "back"]) := inD_str
      have z2 : inD (.str l.wd) [.str "cmd", .str "back"] = decide (l.wd ∈ [("cmd" : Str), "back"]) := z
      rw [z2]
      simpa using hw
    rw [e0]
    wtm_at "g need_letters"
    rw [List.length_map]
    refine num_ok (by omega) (by omega) ?_
    wtm_at "g need_letters"
    exact ⟨_, _, _, rfl, rfl⟩
  · rintro G' M' ⟨_, _, _, rfl, rfl⟩
    exact k
end

/-! ### the craft's class -/
/-- a craft -/
def craftO (C : Addr) (b : List Cmd) (s : List Wd) (n : Int) : MO := .ins C [("book", encB b), ("state", encSt s), ("next_beat", .int n)]
def spCraftInit (C : Addr) : DSp := fun ds M Q => ∃ (x : Addr) (b : List Cmd), ds = [.ref x, encB b] ∧ BookOk b ∧ M x = some (.ins C []) ∧ Q .non (mupd M x (craftO C b (List.replicate b.length .none) 0))
def spCraftBeat (C : Addr) : DSp := fun ds M Q => ∃ (x : Addr) (b : List Cmd) (s : List Wd) (n : Int) (ls : List Lt) (ld : D), ds = [.ref x, ld] ∧ BookOk b ∧ s.length = b.length ∧ M x = some (craftO C b s n) ∧ n ≤ 200 ∧ IsL M ld (ls.map encLt) ∧ (∀ l ∈ ls, l.2 < b.length) ∧
  ∀ M', Ext M M' → Q (encSt (beatenF b s ls n)) (mupd M' x (craftO C b (beatenF b s ls n) (n + 1)))
section
variable {P : Program} {w : World} {K : PySem.W.Frag} {mg : Str → Option Value} {base : Heap}
theorem ok_Craft_init {C : Addr} {f : Addr} {fd : FuncData} (Fn : Fun K "__init__" "Craft.__init__" s_Craft_init f fd) (kC : Ki K C ["book", "state", "next_beat"]) (dB : Dfn P w K mg base 3 "need_book" spNeedBook) (dK : Dfn P w K mg base 1 "blank" spBlank) :
    FnOk P w K mg base CX0 4 f fd ["self", "book"] (lift K (spCraftInit C)) := by
  refine fun_ok Fn sc_Craft_init (fun ds M Q ⟨_, _, e, _⟩ => by rw [e]; rfl) fun cdv A outer sh H E hr ds M Q h B => ?_
  obtain ⟨x, b, rfl, ok, hx, k⟩ := h
  wtm_at "b"
  wtm_at "g Craft_init"
  refine ⟨b, rfl, ok, ?_⟩
  wtm_at "g Craft_init"
  refine ⟨b, rfl, ok, ?_⟩
  wtm_at "g Craft_init"
  rw [mupd_mupd, mupd_mupd]
  exact k
theorem ok_Craft_beat {C : Addr} {f : Addr} {fd : FuncData} (Fn : Fun K "beat" "Craft.beat" s_Craft_beat f fd) (kC : Ki K C ["book", "state", "next_beat"]) (gM : Cst K mg "MOST_BEAT" (.int 200)) (dL : Dfn P w K mg base 2 "need_letters" spNeedLetters) (dB : Dfn P w K mg base 2 "beaten" spBeaten) :
    FnOk P w K mg base CX0 3 f fd ["self", "letters"] (lift K (spCraftBeat C)) := by
  refine fun_ok Fn sc_Craft_beat (fun ds M Q ⟨_, _, _, _, _, _, e, _⟩ => by rw [e]; rfl) fun cdv A outer sh H E hr ds M Q h B => ?_
  obtain ⟨x, b, s, n, ls, ld, rfl, ok, hsl, hx, hn, hL, hls, k⟩ := h
  unfold craftO at hx
  wtm_at "b"
  wtm_at "g Craft_beat"
  refine ⟨b, ls, ld, rfl, ok, hL, hls, ?_⟩
  wtm_at "g Craft_beat"
  refine ite_dec (fun h1 => by omega) (fun _ => ?_)
  wtm_at "g Craft_beat"
  refine ⟨b, s, ls, ld, n, rfl, ok, hsl, hL, hls, fun M' hE => ?_⟩
  have hx' := hE _ _ hx
  wtm_at "g Craft_beat"
  rw [mupd_mupd]
  exact k M' hE
end

/-! ### the law's draws -/
/-- the row: the script, a place, a mix -/
def rowO (ns : List Int) (i z : Int) : MO := .lst [.fzl (ns.map D.int), .int i, .int z]
def Row (ns : List Int) (r : Addr) (M : Mem) : Prop := ∃ (i : Nat) (z : Int), M r = some (rowO ns i z) ∧ 0 ≤ z ∧ z < 2147483647
/-- all but the cell r is as it was -/
def But (r : Addr) (M M' : Mem) : Prop := ∀ a, a ≠ r → M' a = M a
def spTaken : DSp := fun ds M Q => ∃ (ns : List Int) (r : Addr) (many : Int), ds = [.ref r, .int many] ∧ Row ns r M ∧ 0 < many ∧ ∀ k M', 0 ≤ k → k < many → Row ns r M' → But r M M' → Q (.int k) M'
section
variable {P : Program} {w : World} {K : PySem.W.Frag} {mg : Str → Option Value} {base : Heap}
theorem ok_taken {f : Addr} {fd : FuncData} (Fn : Fun K "_law_taken" "_law_taken" s_L_taken f fd) (zl : mg "len" = none) : FnOk P w K mg base CX0 1 f fd ["_law_row", "_law_many"] (lift K spTaken) := by
  refine fun_ok Fn sc_L_taken (fun ds M Q ⟨_, _, _, e, _⟩ => by rw [e]; rfl) fun cdv A outer s H E hr ds M Q h B => ?_
  obtain ⟨ns, r, many, rfl, ⟨i, z, hM, z0, z1⟩, hm, k⟩ := h
  wtm_at "b"
  have bl : Blt (X_L_taken P w K mg base f cdv A outer s H E) "len" (.builtin "len") := ⟨rfl, zl, PySem.boot_len, by decide, by decide⟩
  wtm_at "w L_taken"
  refine ix_c hM (d := .int i) rfl ?_
  wtm_at "w L_taken"
  refine gx_sub (fun _ => rfl) ?_
  wtm_at "w L_taken"
  refine ⟨r, _, 1, 1, rfl, rfl, hM, rfl, ?_⟩
  have h1 : ∀ (j w : Int), But r M (mupd M r (rowO ns j w)) := fun j w a ha => mupd_ne ha
  show SXs _ _ _ _ _ (mupd M r (rowO ns ((i : Int) + 1) z))
  wtm_at "w L_taken"
  refine ix_c mupd_same (d := .int ((i : Int) + 1)) rfl ?_

  wtm_at "w L_taken"
  refine ix_c mupd_same (d := .fzl (ns.map D.int)) rfl ?_
  wtm_at "w L_taken"
  rw [List.length_map]
  refine ite_dec (fun hlt => ?_) (fun hlt => ?_)
  · wtm_at "w L_taken"
    refine ix_c mupd_same (d := .int z) rfl ?_
    wtm_at "w L_taken"
    refine ox_mul (Or.inr ⟨by decide, by decide⟩) ?_
    wtm_at "w L_taken"
    refine ox_mod (by decide) ?_
    refine gx_sub (fun _ => rfl) ?_
    wtm_at "w L_taken"
    refine ⟨r, _, 2, 2, rfl, rfl, mupd_same, rfl, ?_⟩
    rw [mupd_mupd]
    show SXs _ _ _ _ _ (mupd M r (rowO ns ((i : Int) + 1) ((z * 48271 + 11) % 2147483647)))
    wtm_at "w L_taken"
    refine ix_c mupd_same (d := .int ((z * 48271 + 11) % 2147483647)) rfl ?_
    wtm_at "w L_taken"
    refine ox_fdiv ⟨by decide, by decide⟩ ?_
    wtm_at "w L_taken"
    refine ox_mod hm ?_
    exact k _ _ (Int.emod_nonneg _ (by omega)) (Int.emod_lt_of_pos _ hm) ⟨i + 1, _, by rw [mupd_same]; rfl, Int.emod_nonneg _ (by decide), Int.emod_lt_of_pos _ (by decide)⟩ (h1 _ _)
  · have hi : i < ns.length := by omega
    wtm_at "w L_taken"
    refine ix_c mupd_same (d := .fzl (ns.map D.int)) rfl ?_
    wtm_at "w L_taken"
    refine ix_c mupd_same (d := .int ((i : Int) + 1)) rfl ?_
    wtm_at "w L_taken"
    refine ix_f (d := .int (ns[i])) (atI_of (j := i) (by omega) (by simp)) ?_
    wtm_at "w L_taken"
    refine ix_c mupd_same (d := .int z) rfl ?_
    wtm_at "w L_taken"
    refine ox_mul (Or.inr ⟨by decide, by decide⟩) ?_
    wtm_at "w L_taken"
    refine ox_mod (by decide) ?_
    refine gx_sub (fun _ => rfl) ?_
    wtm_at "w L_taken"
    refine ⟨r, _, 2, 2, rfl, rfl, mupd_same, rfl, ?_⟩
    rw [mupd_mupd]
    show SXs _ _ _ _ _ (mupd M r (rowO ns ((i : Int) + 1) ((z * 48271 + ns[i] + 11) % 2147483647)))
    wtm_at "w L_taken"
    refine ox_mod hm ?_
    exact k _ _ (Int.emod_nonneg _ (by omega)) (Int.emod_lt_of_pos _ hm) ⟨i + 1, _, by rw [mupd_same]; rfl, Int.emod_nonneg _ (by decide), Int.emod_lt_of_pos _ (by decide)⟩ (h1 _ _)
end

/-! ### a drawn book -/
/-- all cells but r are there as they were -/
def Kpt (r : Addr) (M M' : Mem) : Prop := ∀ a o, a ≠ r → M a = some o → M' a = some o
theorem But.kpt {r : Addr} {M M' : Mem} (h : But r M M') : Kpt r M M' := fun a o ha e => by rw [h a ha]; exact e
theorem Kpt.refl (r : Addr) (M : Mem) : Kpt r M M := fun _ _ _ h => h
theorem Kpt.trans {r : Addr} {M M1 M2 : Mem} (h : Kpt r M M1) (g : Kpt r M1 M2) : Kpt r M M2 := fun a o ha e => g a o ha (h a o ha e)
theorem Kpt.new {r l : Addr} {M M' : Mem} {o : MO} (h : Kpt r M M') (hl : M l = none) : Kpt r M (mupd M' l o) := fun a u ha e => by
  rw [mupd_ne (mne e hl)]; exact h a u ha e
theorem Ext.kpt {r : Addr} {M M' : Mem} (h : Ext M M') : Kpt r M M' := fun a o _ e => h a o e
theorem Row.ne {ns : List Int} {r l : Addr} {M : Mem} (h : Row ns r M) (hl : M l = none) : l ≠ r := fun e => by
  obtain ⟨i, z, h, _⟩ := h
  rw [e, h] at hl; cases hl
theorem Row.cell' {ns : List Int} {r : Addr} {M : Mem} (h : Row ns r M) : ∃ o, M r = some o := by
  obtain ⟨i, z, h, _⟩ := h
  exact ⟨_, h⟩
theorem Row.upd {ns : List Int} {r l : Addr} {M : Mem} {o : MO} (h : Row ns r M) (hl : l ≠ r) : Row ns r (mupd M l o) := by
  obtain ⟨i, z, h, h2⟩ := h
  exact ⟨i, z, by rw [mupd_ne (Ne.symm hl)]; exact h, h2⟩
theorem Row.del {ns : List Int} {r l : Addr} {M : Mem} (h : Row ns r M) (hl : l ≠ r) : Row ns r (mdel M l) := by
  obtain ⟨i, z, h, h2⟩ := h
  exact ⟨i, z, by unfold mdel; rw [if_neg (Ne.symm hl)]; exact h, h2⟩
theorem Row.ext {ns : List Int} {r : Addr} {M M' : Mem} (h : Row ns r M) (e : Ext M M') : Row ns r M' := by
  obtain ⟨i, z, h, h2⟩ := h
  exact ⟨i, z, e _ _ h, h2⟩
/-- commands of a drawn book -/
def BookTo (b : List Cmd) (far : Int) : Prop := ∀ c ∈ b, c.til ≤ far
def spBook : DSp := fun ds M Q => ∃ (ns : List Int) (r : Addr) (most far : Int), ds = [.ref r, .int most, .int far] ∧ Row ns r M ∧ 1 ≤ most ∧ most ≤ 8 ∧ 6 ≤ far ∧ far ≤ 200 ∧
  ∀ (b : List Cmd) (M' : Mem), BookOk b → (b.length : Int) ≤ most → BookTo b far → Row ns r M' → Kpt r M M' → Q (encB b) M'
section
variable {P : Program} {w : World} {K : PySem.W.Frag} {mg : Str → Option Value} {base : Heap}
theorem ok_L_book {f : Addr} {fd : FuncData} (Fn : Fun K "_law_book" "_law_book" s_L_book f fd) (zr : mg "range" = none) (zt : mg "tuple" = none) (zx : mg "max" = none) (zm : mg "min" = none) (dT : Dfn P w K mg base 1 "_law_taken" spTaken) : FnOk P w K mg base CX0 2 f fd ["_law_row", "_law_most", "_law_far"] (lift K spBook) := by
  refine fun_ok Fn sc_L_book (fun ds M Q ⟨_, _, _, _, e, _⟩ => by rw [e]; rfl) fun cdv A outer s H E hr ds M Q h B => ?_
  obtain ⟨ns, r, most, far, rfl, hR, m1, m8, f6, f200, k⟩ := h
  wtm_at "b"
  wtm_at "g L_book"
  refine ex_lstM (ax_nil ⟨Nat.zero_le _, fun c fc => ?_⟩)
  have hcr : c ≠ r := hR.ne fc
  wtm_at "g L_book"
  refine sx_for PassesOwn.never rfl (fun _ => rfl) ?_
  refine lx_range1 rfl zr rfl ?_
  wtm_at "g L_book"
  refine ⟨ns, r, _, rfl, hR.upd hcr, by omega, fun k0 M0 z0 z1 hR0 hB0 => ?_⟩
  wtm_at "g L_book"
  refine ⟨_, rfl, by omega, by omega, fun i G' M' => ∃ (b : List Cmd) (a4 a5 a6 a7 a8 : Option D), G' = [some (.ref r), some (.int most), some (.int far), some (.ref c), a4, a5, a6, a7, a8] ∧ b.length = i ∧ (∀ j cm, b[j]? = some cm → CmdOk cm j ∧ cm.til ≤ far) ∧ Row ns r M' ∧ M' c = some (.lst (b.map Cmd.enc)) ∧ Kpt r M M',
    ⟨[], _, _, _, _, _, rfl, rfl, by simp, hR0, by rw [hB0 c hcr]; exact mupd_same, (Ext.kpt (Ext.new fc)).trans hB0.kpt⟩, ?_, ?_⟩
  · rintro i d G' M' hd ⟨b, a4, a5, a6, a7, a8, rfl, hbl, hb, hR1, hc, hK⟩
    obtain ⟨hi, rfl⟩ := rangeD_at hd
    wtm_at "g L_book"
    refine ox_fdiv ⟨by decide, by decide⟩ ?_
    wtm_at "g L_book"
    refine ⟨ns, r, _, rfl, hR1, by decide, fun k2 M2 a0 a1 hR2 hB2 => ?_⟩
    refine ix_li (ns := [far / 2 + 1, 4]) a0 a1 fun top htop => ?_
    have ht : top = far / 2 + 1 ∨ top = 4 := by simpa using htop
    wtm_at "g L_book"
    refine ⟨ns, r, _, rfl, hR2, by omega, fun when M3 b0 b1 hR3 hB3 => ?_⟩
    have hwf : when ≤ far := by omega
    wtm_at "g L_book"
    refine ⟨ns, r, _, rfl, hR3, by decide, fun k4 M4 c0 c1 hR4 hB4 => ?_⟩
    wtm_at "g L_book"
    refine bx_min2 rfl ?_
    wtm_at "g L_book"
    refine ⟨ns, r, _, rfl, hR4, by decide, fun k5 M5 e0 e1 hR5 hB5 => ?_⟩
    refine ix_li (ns := [far, if when + k4 < far then when + k4 else far]) e0 e1 fun til htil => ?_
    have ht2 : til = far ∨ til = if when + k4 < far then when + k4 else far := by simpa using htil
    have ht3 : til ≤ far := by
      rcases ht2 with e | e
      · omega
      · rw [e]; split <;> omega
    wtm_at "g L_book"
    wtm_at "lc L_book 0"
    refine lx_range1 rfl zr rfl ?_
    wtm_at "g L_book"
    refine ⟨_, rfl, by omega, by omega, fun L hL => ?_⟩
    have hLr : L ≠ r := hR5.ne hL
    have hc5 : M5 c = some (.lst (b.map Cmd.enc)) := by rw [hB5 c hcr, hB4 c hcr, hB3 c hcr, hB2 c hcr]; exact hc
    have hcL : c ≠ L := mne hc5 hL
    refine ⟨fun j acc M6 => ∃ ws : List Nat, acc = ws.map encN ∧ ws.Pairwise (· < ·) ∧ (∀ n ∈ ws, n < j) ∧ Row ns r M6 ∧ ∀ a, a ≠ r → a ≠ L → M6 a = M5 a, ⟨[], rfl, .nil, by simp, hR5.upd hLr, fun a _ hb => mupd_ne hb⟩, ?_, ?_⟩
    · rintro j d acc M6 hd6 ⟨ws, rfl, hp, hw, hR6, hB6⟩ hM
      obtain ⟨hj, rfl⟩ := rangeD_at hd6
      have hwl := up_len hp hw
      refine fun s1 H1 C1 cl1 fp1 => txs_one ?_
      wtm_at "gb L_book"
      refine ⟨ns, r, _, rfl, hR6, by decide, fun k7 M7 g0 g1 hR7 hB7 => ?_⟩
      wtm_at "gb L_book"
      refine ite_dec (fun h1 => fun s2 H2 C2 cl2 fp2 => ?_) (fun h1 => ?_)
      · wtm_at "gb L_book"
        refine ⟨by rw [hB7 L hLr]; exact hM, ?_, ws ++ [j], ?_, ?_, ?_, hR7.upd hLr, fun a ha hb => ?_⟩
        · rw [List.length_map]
          exact Nat.lt_of_le_of_lt (by omega : _ ≤ 8) (by decide)
        · rw [List.map_append, Int.zero_add]; rfl
        · rw [List.pairwise_append]
          exact ⟨hp, by simp, fun a ha b hb => by rw [List.mem_singleton.mp hb]; exact hw a ha⟩
        · intro n hn
          rcases List.mem_append.mp hn with hn | hn
          · have := hw n hn; omega
          · rw [List.mem_singleton.mp hn]; omega
        · rw [mupd_ne hb, hB7 a ha]; exact hB6 a ha hb
      · refine ⟨by rw [hB7 L hLr]; exact hM, ws, rfl, hp, fun n hn => by have := hw n hn; omega, hR7, fun a ha hb => ?_⟩
        rw [hB7 a ha]; exact hB6 a ha hb
    · rintro acc M6 ⟨ws, rfl, hp, hw, hR6, hB6⟩ hM
      rw [rangeD_len] at hw
      have hwi : ∀ n ∈ ws, n < i := fun n hn => by have := hw n hn; omega
      have hc6 : (mdel M6 L) c = some (.lst (b.map Cmd.enc)) := by
        unfold mdel; rw [if_neg hcL, hB6 c hcr hcL]; exact hc5
      wtm_at "g L_book"
      refine bx_tupL ?_
      wtm_at "g L_book"
      refine ex_append rfl rfl rfl rfl rfl ?_
      wtm_at "g L_book"
      refine ⟨c, _, rfl, hc6, ?_⟩
      wtm_at "g L_book"
      refine bx_max2 rfl ?_
      wtm_at "g L_book"
      refine ⟨_, hc6, ?_, ?_⟩
      · rw [List.length_map]
        exact Nat.lt_of_le_of_lt (by omega : _ ≤ 8) (by decide)
      wtm_at "g L_book"
      have hmx : (if til > when then til else when) = max when til := by
        rw [Int.max_def]; split <;> split <;> omega
      refine ⟨b ++ [⟨when, max when til, ws⟩], _, _, _, _, _, rfl, by simp [hbl], ?_, ?_, ?_, ?_⟩
      · intro j cm hj
        by_cases e : j < b.length
        · rw [List.getElem?_append_left e] at hj
          exact hb j cm hj
        · rw [List.getElem?_append_right (by omega)] at hj
          have ej : j - b.length = 0 := by
            have := (List.getElem?_eq_some_iff.mp hj).1
            simp at this; omega
          rw [ej] at hj
          have ec : cm = ⟨when, max when til, ws⟩ := by simpa using hj.symm
          subst ec
          have hj2 : j = i := by omega
          subst hj2
          exact ⟨⟨b0, Int.le_max_left _ _, by show max when til ≤ 200; omega, hwi, hp⟩, by show max when til ≤ far; omega⟩
      · exact (hR6.del hLr).upd hcr
      · rw [mupd_same, List.map_append, hmx]; rfl
      · intro a o ha e
        rw [mupd_ne (mne e fc)]
        have h5 : M5 a = some o := by rw [hB5 a ha, hB4 a ha, hB3 a ha, hB2 a ha]; exact hK a o ha e
        unfold mdel
        rw [if_neg (mne h5 hL), hB6 a ha (mne h5 hL)]
        exact h5
  · rintro G' M' ⟨b, a4, a5, a6, a7, a8, rfl, hbl, hb, hR1, hc, hK⟩
    rw [rangeD_len] at hbl
    wtm_at "b"
    wtm_at "g L_book"
    refine bx_tupC hc ?_
    refine k b M' ⟨?_, by omega, fun i c hi => (hb i c hi).1⟩ (by omega) (fun c hc => ?_) hR1 hK
    · intro e
      rw [e] at hbl
      simp at hbl
      omega
    · obtain ⟨i, hi⟩ := List.mem_iff_getElem?.mp hc
      exact (hb i c hi).2
end

/-! ### going on: each word by those behind it (no program here) -/
theorem getD_set_self {α : Type} {l : List α} {i : Nat} {x d : α} (h : i < l.length) : (l.set i x).getD i d = x := by
  rw [List.getD_eq_getElem?_getD, List.getElem?_set_self h]; rfl
theorem getD_set_ne {α : Type} {l : List α} {i j : Nat} {x d : α} (h : i ≠ j) : (l.set i x).getD j d = l.getD j d := by
  rw [List.getD_eq_getElem?_getD, List.getElem?_set_ne h, List.getD_eq_getElem?_getD]
theorem getD_app_left {α : Type} {l m : List α} {j : Nat} {d : α} (h : j < l.length) : (l ++ m).getD j d = l.getD j d := by
  rw [List.getD_eq_getElem?_getD, List.getElem?_append_left h, List.getD_eq_getElem?_getD]
theorem ext_getD {α : Type} {l m : List α} (d : α) (hl : l.length = m.length) (h : ∀ k, k < l.length → l.getD k d = m.getD k d) : l = m := by
  apply List.ext_getElem hl
  intro i h1 h2
  have z := h i h1
  rw [List.getD_eq_getElem?_getD, List.getD_eq_getElem?_getD, List.getElem?_eq_getElem h1, List.getElem?_eq_getElem h2] at z
  exact z
theorem goneOne_congr {c : Cmd} {t : Int} {s s' : List Wd} {w : Wd} (h : ∀ j ∈ c.wants, s'.getD j .none = s.getD j .none) : goneOne c t s' w = goneOne c t s w := by
  have e : (∀ j ∈ c.wants, s'.getD j .none = .done) ↔ ∀ j ∈ c.wants, s.getD j .none = .done :=
    ⟨fun z j hj => by rw [← h j hj]; exact z j hj, fun z j hj => by rw [h j hj]; exact z j hj⟩
  unfold goneOne
  simp only [e]
theorem goneGo_spec {t : Int} : ∀ (cs : List Cmd) (i : Nat) (s : List Wd), (∀ j c, cs[j]? = some c → ∀ n ∈ c.wants, n < i + j) → s.length = i + cs.length →
    (∀ k, k < i → (goneGo t cs i s).getD k .none = s.getD k .none) ∧ ∀ j c, cs[j]? = some c → (goneGo t cs i s).getD (i + j) .none = goneOne c t (goneGo t cs i s) (s.getD (i + j) .none)
  | [], i, s, _, _ => ⟨fun _ _ => rfl, fun j c h => by simp at h⟩
  | c :: cs, i, s, hw, hl => by
    have hil : i < s.length := by rw [hl]; simp
    obtain ⟨h1, h2⟩ := goneGo_spec cs (i + 1) (s.set i (goneOne c t s (s.getD i .none))) (fun j c' hj n hn => by
      have := hw (j + 1) c' (by simpa using hj) n hn; omega) (by rw [List.length_set, hl, List.length_cons]; omega)
    rw [goneGo]
    refine ⟨fun k hk => ?_, fun j c' hj => ?_⟩
    · rw [h1 k (by omega), getD_set_ne (by omega)]
    · cases j with
      | zero =>
        have e : c' = c := by simpa using hj.symm
        subst e
        show (goneGo t cs (i + 1) _).getD i .none = goneOne c' t _ (s.getD i .none)
        rw [h1 i (by omega), getD_set_self hil]
        refine (goneOne_congr fun n hn => ?_).symm
        have := hw 0 c' rfl n hn
        rw [h1 n (by omega), getD_set_ne (by omega)]
      | succ j =>
        have z := h2 j c' (by simpa using hj)
        rw [show i + (j + 1) = i + 1 + j from by omega, z, getD_set_ne (by omega)]
theorem goneF_spec {b : List Cmd} {t : Int} {s : List Wd} (ok : BookOk b) (hl : s.length = b.length) {k : Nat} {c : Cmd} (h : b[k]? = some c) : (goneF b t s).getD k .none = goneOne c t (goneF b t s) (s.getD k .none) := by
  have z := (goneGo_spec (t := t) b 0 s (fun j c hj n hn => by have := (ok.ok j c hj).lt n hn; omega) (by omega)).2 k c h
  rw [Nat.zero_add] at z
  exact z

/-! ### beat by beat: what is done, and when (no program here) -/
theorem doneOne_congr {c : Cmd} {x : Option Int} {s s' : List (Option Int)} (h : ∀ j ∈ c.wants, s'.getD j none = s.getD j none) : doneOne c x s' = doneOne c x s := by
  have e : (c.wants.map fun j => s'.getD j none) = c.wants.map fun j => s.getD j none := List.map_congr_left h
  unfold doneOne
  rw [e]
theorem doneList_spec {comes : List (Option Int)} : ∀ (cs : List Cmd) (found : List (Option Int)), (∀ j c, cs[j]? = some c → ∀ n ∈ c.wants, n < found.length + j) →
    (∀ k, k < found.length → (doneList comes cs found).getD k none = found.getD k none) ∧ ∀ j c, cs[j]? = some c → (doneList comes cs found).getD (found.length + j) none = doneOne c (comes.getD (found.length + j) none) (doneList comes cs found)
  | [], found, _ => ⟨fun _ _ => rfl, fun j c h => by simp at h⟩
  | c :: cs, found, hw => by
    have e1 : (found ++ [doneOne c (comes.getD found.length none) found]).length = found.length + 1 := by simp
    obtain ⟨h1, h2⟩ := doneList_spec (comes := comes) cs (found ++ [doneOne c (comes.getD found.length none) found]) (fun j c' hj n hn => by
      have := hw (j + 1) c' (by simpa using hj) n hn; omega)
    rw [e1] at h1 h2
    rw [doneList]
    refine ⟨fun k hk => ?_, fun j c' hj => ?_⟩
    · rw [h1 k (by omega), getD_app_left hk]
    · cases j with
      | zero =>
        have e : c' = c := by simpa using hj.symm
        subst e
        show (doneList comes cs _).getD found.length none = doneOne c' (comes.getD found.length none) _
        rw [h1 found.length (by omega)]
        have e2 : (found ++ [doneOne c' (comes.getD found.length none) found]).getD found.length none = doneOne c' (comes.getD found.length none) found := by
          rw [List.getD_eq_getElem?_getD, List.getElem?_append_right (Nat.le_refl _), Nat.sub_self]; rfl
        rw [e2]
        refine (doneOne_congr fun n hn => ?_).symm
        have := hw 0 c' rfl n hn
        rw [h1 n (by omega), getD_app_left (by omega)]
      | succ j =>
        have z := h2 j c' (by simpa using hj)
        rw [show found.length + (j + 1) = found.length + 1 + j from by omega, z]
theorem doneAt_spec {b : List Cmd} {comes : List (Option Int)} (ok : BookOk b) {k : Nat} {c : Cmd} (h : b[k]? = some c) : (doneAt b comes).getD k none = doneOne c (comes.getD k none) (doneAt b comes) := by
  have z := (doneList_spec (comes := comes) b [] (fun j c hj n hn => by have := (ok.ok j c hj).lt n hn; simpa using this)).2 k c h
  rw [show ([] : List (Option Int)).length + k = k from Nat.zero_add k] at z
  exact z
theorem maxO_iff {w m : Int} : ∀ {l : List (Option Int)}, maxO w l = some m → (∀ o ∈ l, ∃ y, o = some y ∧ y ≤ m) ∧ w ≤ m ∧ (m = w ∨ some m ∈ l)
  | [], h => by
    have e : w = m := Option.some.inj h
    exact ⟨by simp, by omega, .inl e.symm⟩
  | none :: _, h => by cases h
  | some x :: r, h => by
    have h' : (maxO w r).map (max x) = some m := h
    obtain ⟨m', h1, h2⟩ := Option.map_eq_some_iff.mp h'
    obtain ⟨a1, a2, a3⟩ := maxO_iff h1
    refine ⟨fun o ho => ?_, by omega, ?_⟩
    · rcases List.mem_cons.mp ho with rfl | ho
      · exact ⟨x, rfl, by omega⟩
      · obtain ⟨y, hy, hle⟩ := a1 o ho
        exact ⟨y, hy, by omega⟩
    · rcases Int.le_total x m' with hx | hx
      · rw [Int.max_eq_right hx] at h2
        subst h2
        rcases a3 with a3 | a3
        · exact .inl a3
        · exact .inr (List.mem_cons_of_mem _ a3)
      · rw [Int.max_eq_left hx] at h2
        subst h2
        exact .inr (by simp)
theorem maxO_le {w t : Int} : ∀ {l : List (Option Int)}, (∀ o ∈ l, ∃ y, o = some y ∧ y ≤ t) → w ≤ t → ∃ m, maxO w l = some m ∧ m ≤ t
  | [], _, hw => ⟨w, rfl, hw⟩
  | o :: r, h, hw => by
    obtain ⟨y, rfl, hy⟩ := h o (by simp)
    obtain ⟨m, hm, hle⟩ := maxO_le (l := r) (fun o ho => h o (List.mem_cons_of_mem _ ho)) hw
    refine ⟨max y m, ?_, by omega⟩
    show (maxO w r).map (max y) = _
    rw [hm]; rfl
section
variable {b : List Cmd} {comes : List (Option Int)} {k : Nat} {c : Cmd} {d t : Int}
/-- what is done came, at its time, behind those that it wants -/
theorem done_facts (ok : BookOk b) (h : b[k]? = some c) (hd : (doneAt b comes).getD k none = some d) :
    (∃ x, comes.getD k none = some x ∧ x ≤ d) ∧ c.when ≤ d ∧ d ≤ c.til ∧ (∀ j ∈ c.wants, ∃ y, (doneAt b comes).getD j none = some y ∧ y ≤ d) ∧ (d = c.when ∨ comes.getD k none = some d ∨ ∃ j ∈ c.wants, (doneAt b comes).getD j none = some d) := by
  rw [doneAt_spec ok h] at hd
  unfold doneOne at hd
  split at hd
  · cases hd
  · rename_i m hm
    split at hd
    · rename_i hle
      have e : m = d := Option.some.inj hd
      subst e
      obtain ⟨a1, a2, a3⟩ := maxO_iff hm
      refine ⟨a1 _ (by simp), a2, hle, fun j hj => a1 _ (List.mem_cons_of_mem _ (List.mem_map.mpr ⟨j, hj, rfl⟩)), ?_⟩
      rcases a3 with a3 | a3
      · exact .inl a3
      · rcases List.mem_cons.mp a3 with a3 | a3
        · exact .inr (.inl a3.symm)
        · obtain ⟨j, hj, e⟩ := List.mem_map.mp a3
          exact .inr (.inr ⟨j, hj, e⟩)
    · cases hd
theorem done_by (ok : BookOk b) (h : b[k]? = some c) {x : Int} (hx : comes.getD k none = some x) (hxt : x ≤ t) (hw : c.when ≤ t) (hu : t ≤ c.til) (hj : ∀ j ∈ c.wants, ∃ y, (doneAt b comes).getD j none = some y ∧ y ≤ t) : ∃ d, (doneAt b comes).getD k none = some d ∧ d ≤ t := by
  obtain ⟨m, hm, hle⟩ := maxO_le (w := c.when) (t := t) (l := comes.getD k none :: c.wants.map fun j => (doneAt b comes).getD j none) (fun o ho => by
    rcases List.mem_cons.mp ho with rfl | ho
    · exact ⟨x, hx, hxt⟩
    · obtain ⟨j, hj', e⟩ := List.mem_map.mp ho
      obtain ⟨y, hy, hle⟩ := hj j hj'
      exact ⟨y, by rw [← e]; exact hy, hle⟩) hw
  refine ⟨m, ?_, hle⟩
  rw [doneAt_spec ok h]
  unfold doneOne
  rw [hm]
  exact if_pos (by omega)
/-- no later than all that comes, and all whens -/
theorem done_le (ok : BookOk b) {m : Int} (hc : ∀ x, some x ∈ comes → x ≤ m) (hw : ∀ c ∈ b, c.when ≤ m) : ∀ k d, k < b.length → (doneAt b comes).getD k none = some d → d ≤ m := by
  intro k
  induction k using Nat.strongRecOn with
  | _ k ih =>
    intro d hk hd
    have hb : b[k]? = some b[k] := List.getElem?_eq_getElem hk
    obtain ⟨_, _, _, _, h5⟩ := done_facts ok hb hd
    rcases h5 with e | e | ⟨j, hj, e⟩
    · rw [e]; exact hw _ (List.getElem_mem hk)
    · refine hc d ?_
      rw [List.getD_eq_getElem?_getD] at e
      cases q : comes[k]? with
      | none => rw [q] at e; cases e
      | some o =>
        rw [q] at e
        have : o = some d := e
        rw [← this]
        exact List.mem_of_getElem? q
    · have hlt := (ok.ok k _ hb).lt j hj
      exact ih j hlt d (by omega) e
end
/-! ### going on -/
def lettersAt (n : Nat) (comes : List (Option Int)) (t : Int) : List Lt := (List.range n).filterMap fun k => if comes.getD k none = some t then some (false, k) else none
def simS (b : List Cmd) (comes : List (Option Int)) : Nat → List Wd
  | 0 => List.replicate b.length .none
  | t + 1 => beatenF b (simS b comes t) (lettersAt b.length comes t) t
theorem simS_len {b : List Cmd} {comes : List (Option Int)} : ∀ {t : Nat}, (simS b comes t).length = b.length
  | 0 => by simp [simS]
  | t + 1 => by rw [simS, beatenF_len]; exact simS_len
theorem foldl_cmd : ∀ {ls : List Lt} {s : List Wd} {k : Nat}, (∀ l ∈ ls, l.1 = false ∧ l.2 < s.length) → (ls.foldl heardF s).getD k .none = if (false, k) ∈ ls ∧ s.getD k .none = .none ∧ k < s.length then .held else s.getD k .none
  | [], s, k, _ => by simp
  | l :: ls, s, k, h => by
    obtain ⟨h1, h2⟩ := h l (by simp)
    obtain ⟨bk, n⟩ := l
    have e1 : bk = false := h1
    have h2' : n < s.length := h2
    subst e1
    rw [List.foldl_cons, foldl_cmd (fun l hl => by rw [heardF_len]; exact h l (List.mem_cons_of_mem _ hl)), heardF_len]
    have eh : heardF s (false, n) = s.set n (if s.getD n .none = .none then .held else s.getD n .none) := rfl
    rw [eh]
    by_cases hk : n = k
    · subst hk
      rw [getD_set_self h2']
      by_cases hs : s.getD n .none = .none
      · rw [if_pos hs, if_pos (⟨by simp, hs, h2'⟩ : (false, n) ∈ (false, n) :: ls ∧ s.getD n .none = .none ∧ n < s.length)]
        split <;> rfl
      · rw [if_neg hs, if_neg (fun z => hs z.2.1), if_neg (fun z => hs z.2.1)]
    · rw [getD_set_ne hk]
      have : (false, k) ∈ (false, n) :: ls ↔ (false, k) ∈ ls := by
        rw [List.mem_cons]
        constructor
        · rintro (e | e)
          · exact absurd (Prod.mk.inj e).2.symm hk
          · exact e
        · exact .inr
      simp only [this]
theorem mem_lettersAt {n k : Nat} {comes : List (Option Int)} {t : Int} : (false, k) ∈ lettersAt n comes t ↔ k < n ∧ comes.getD k none = some t := by
  unfold lettersAt
  rw [List.mem_filterMap]
  constructor
  · rintro ⟨j, hj, h⟩
    split at h
    · rename_i e
      have : j = k := by simpa using h
      subst this
      exact ⟨by simpa using hj, e⟩
    · cases h
  · rintro ⟨h1, h2⟩
    exact ⟨k, by simpa using h1, by rw [if_pos h2]⟩
theorem lettersAt_ok {n : Nat} {comes : List (Option Int)} {t : Int} : ∀ l ∈ lettersAt n comes t, l.1 = false ∧ l.2 < n := by
  intro l hl
  unfold lettersAt at hl
  obtain ⟨j, hj, h⟩ := List.mem_filterMap.mp hl
  split at h
  · have : l = (false, j) := by simpa using h.symm
    rw [this]
    exact ⟨rfl, by simpa using hj⟩
  · cases h
/-- the word behind the beats ahead of t -/
def wordAt (c : Cmd) (come dn : Option Int) (t : Int) : Wd :=
  match come with
  | none => .none
  | some x => if t ≤ x then .none else match dn with
    | some d => if d < t then .done else if c.til < t - 1 then .late else .held
    | none => if c.til < t - 1 then .late else .held
theorem sim_word {b : List Cmd} {comes : List (Option Int)} (ok : BookOk b) (h0 : ∀ x, some x ∈ comes → 0 ≤ x) : ∀ (t : Nat) (k : Nat) (c : Cmd), b[k]? = some c → (simS b comes t).getD k .none = wordAt c (comes.getD k none) ((doneAt b comes).getD k none) t
  | 0, k, c, hc => by
    have hk : k < b.length := (List.getElem?_eq_some_iff.mp hc).1
    have e : (simS b comes 0).getD k .none = .none := by
      unfold simS
      rw [List.getD_eq_getElem?_getD, List.getElem?_replicate]; split <;> rfl
    rw [e]
    cases q : comes.getD k none with
    | none => rfl
    | some x =>
      have hx : 0 ≤ x := by
        refine h0 x ?_
        rw [List.getD_eq_getElem?_getD] at q
        cases z : comes[k]? with
        | none => rw [z] at q; cases q
        | some o =>
          rw [z] at q
          have : o = some x := q
          rw [← this]; exact List.mem_of_getElem? z
      show _ = if (0 : Int) ≤ x then Wd.none else _
      rw [if_pos hx]
  | t + 1, k, c, hc => by
    induction k using Nat.strongRecOn generalizing c with
    | _ k ih =>
      have hk : k < b.length := (List.getElem?_eq_some_iff.mp hc).1
      have prev := sim_word ok h0 t k c hc
      have cok := ok.ok k c hc
      have hlen : ((lettersAt b.length comes t).foldl heardF (simS b comes t)).length = b.length := by rw [foldl_heard_len, simS_len]
      have spec := goneF_spec (t := t) ok hlen hc
      have efull : simS b comes (t + 1) = goneF b t ((lettersAt b.length comes t).foldl heardF (simS b comes t)) := rfl
      rw [← efull] at spec
      rw [spec, foldl_cmd (fun l hl => by rw [simS_len]; exact lettersAt_ok l hl), simS_len]
      simp only [mem_lettersAt]
      -- those that it wants, by now
      have wants : (∀ j ∈ c.wants, (simS b comes (t + 1)).getD j .none = .done) ↔ ∀ j ∈ c.wants, ∃ y, (doneAt b comes).getD j none = some y ∧ y ≤ t := by
        constructor
        · intro h j hj
          have hjk := cok.lt j hj
          have hbj : b[j]? = some b[j] := List.getElem?_eq_getElem (by omega)
          have z := ih j hjk _ hbj
          rw [h j hj] at z
          unfold wordAt at z
          split at z
          · cases z
          · split at z
            · cases z
            · split at z
              · rename_i d hd
                split at z
                · exact ⟨d, hd, by omega⟩
                · split at z <;> cases z
              · split at z <;> cases z
        · intro h j hj
          have hjk := cok.lt j hj
          have hbj : b[j]? = some b[j] := List.getElem?_eq_getElem (by omega)
          obtain ⟨y, hy, hyt⟩ := h j hj
          obtain ⟨⟨x, hx, hxy⟩, _⟩ := done_facts ok hbj hy
          rw [ih j hjk _ hbj, hx, hy]
          show (if ((t + 1 : Nat) : Int) ≤ x then Wd.none else if y < ((t + 1 : Nat) : Int) then Wd.done else _) = _
          rw [if_neg (by omega), if_pos (by omega)]
      have hone : ∀ w, goneOne c t (simS b comes (t + 1)) w = if w = .held then (if c.til < t then .late else if c.when ≤ t ∧ ∀ j ∈ c.wants, ∃ y, (doneAt b comes).getD j none = some y ∧ y ≤ t then .done else .held) else w := by
        intro w
        unfold goneOne
        simp only [wants]
      rw [hone]
      cases q : comes.getD k none with
      | none =>
        rw [q] at prev
        have p : (simS b comes t).getD k .none = .none := prev
        rw [p]
        simp [wordAt]
      | some x =>
        rw [q] at prev
        by_cases hxt : (t : Int) + 1 ≤ x
        · have p : (simS b comes t).getD k .none = .none := by
            rw [prev]
            show (if (t : Int) ≤ x then Wd.none else _) = _
            rw [if_pos (by omega)]
          have hw1 : (if (k < b.length ∧ some x = some (t : Int)) ∧ (simS b comes t).getD k .none = .none ∧ k < b.length then Wd.held else (simS b comes t).getD k .none) = .none := by
            rw [if_neg (by intro z; have := Option.some.inj z.1.2; omega)]
            exact p
          rw [hw1, if_neg (by intro z; cases z)]
          show _ = if ((t + 1 : Nat) : Int) ≤ x then Wd.none else _
          rw [if_pos (by omega)]
        · have target : wordAt c (some x) ((doneAt b comes).getD k none) ((t + 1 : Nat) : Int) = (match (doneAt b comes).getD k none with
              | some d => if d < ((t + 1 : Nat) : Int) then Wd.done else if c.til < ((t + 1 : Nat) : Int) - 1 then .late else .held
              | none => if c.til < ((t + 1 : Nat) : Int) - 1 then Wd.late else .held) := by
            show (if ((t + 1 : Nat) : Int) ≤ x then Wd.none else _) = _
            rw [if_neg (by omega)]
          rw [target]
          by_cases hdn : ∃ d, (doneAt b comes).getD k none = some d ∧ d < t
          · obtain ⟨d, hd, hdt⟩ := hdn
            obtain ⟨⟨x', hx', hxd⟩, _⟩ := done_facts ok hc hd
            rw [q] at hx'
            have exx : x = x' := Option.some.inj hx'
            have p : (simS b comes t).getD k .none = .done := by
              rw [prev, hd]
              show (if (t : Int) ≤ x then Wd.none else if d < (t : Int) then Wd.done else _) = _
              rw [if_neg (by omega), if_pos hdt]
            have hw1 : (if (k < b.length ∧ some x = some (t : Int)) ∧ (simS b comes t).getD k .none = .none ∧ k < b.length then Wd.held else (simS b comes t).getD k .none) = .done := by
              rw [p]
              exact if_neg (by intro z; cases z.2.1)
            rw [hw1, if_neg (by intro z; cases z), hd]
            show _ = if d < ((t + 1 : Nat) : Int) then Wd.done else _
            rw [if_pos (by omega)]
          · have notd : ∀ d, (doneAt b comes).getD k none = some d → (t : Int) ≤ d := fun d hd => by
              by_cases z : d < t
              · exact absurd ⟨d, hd, z⟩ hdn
              · omega
            -- the word once all letters are heard: held, or late already
            have hw1 : (if (k < b.length ∧ some x = some (t : Int)) ∧ (simS b comes t).getD k .none = .none ∧ k < b.length then Wd.held else (simS b comes t).getD k .none) = if x < t ∧ c.til < (t : Int) - 1 then .late else .held := by
              by_cases hx : x = t
              · have p : (simS b comes t).getD k .none = .none := by
                  rw [prev]
                  show (if (t : Int) ≤ x then Wd.none else _) = _
                  rw [if_pos (by omega)]
                rw [if_pos ⟨⟨hk, by rw [hx]⟩, p, hk⟩, if_neg (by omega)]
              · have p : (simS b comes t).getD k .none = if c.til < (t : Int) - 1 then .late else .held := by
                  rw [prev]
                  show (if (t : Int) ≤ x then Wd.none else _) = _
                  rw [if_neg (by omega)]
                  cases hq : (doneAt b comes).getD k none with
                  | none => rfl
                  | some d =>
                    have := notd d hq
                    show (if d < (t : Int) then Wd.done else _) = _
                    rw [if_neg (by omega)]
                rw [if_neg (by intro z; exact hx (Option.some.inj z.1.2)), p]
                by_cases h3 : c.til < (t : Int) - 1
                · rw [if_pos h3, if_pos ⟨by omega, h3⟩]
                · rw [if_neg h3, if_neg (fun z => h3 z.2)]
            rw [hw1]
            by_cases hl : x < t ∧ c.til < (t : Int) - 1
            · rw [if_pos hl, if_neg (by intro z; cases z)]
              cases hq : (doneAt b comes).getD k none with
              | none =>
                show _ = if c.til < ((t + 1 : Nat) : Int) - 1 then Wd.late else .held
                rw [if_pos (by omega)]
              | some d =>
                have h1 := notd d hq
                obtain ⟨_, _, h2, _⟩ := done_facts ok hc hq
                omega
            · rw [if_neg hl, if_pos rfl]
              by_cases h4 : c.til < (t : Int)
              · rw [if_pos h4]
                cases hq : (doneAt b comes).getD k none with
                | none =>
                  show _ = if c.til < ((t + 1 : Nat) : Int) - 1 then Wd.late else .held
                  rw [if_pos (by omega)]
                | some d =>
                  have h1 := notd d hq
                  obtain ⟨_, _, h2, _⟩ := done_facts ok hc hq
                  omega
              · rw [if_neg h4]
                by_cases h5 : c.when ≤ (t : Int) ∧ ∀ j ∈ c.wants, ∃ y, (doneAt b comes).getD j none = some y ∧ y ≤ (t : Int)
                · rw [if_pos h5]
                  obtain ⟨d, hd, hdt⟩ := done_by ok hc q (by omega) h5.1 (by omega) h5.2
                  rw [hd]
                  show _ = if d < ((t + 1 : Nat) : Int) then Wd.done else _
                  rw [if_pos (by omega)]
                · rw [if_neg h5]
                  cases hq : (doneAt b comes).getD k none with
                  | none =>
                    show _ = if c.til < ((t + 1 : Nat) : Int) - 1 then Wd.late else .held
                    rw [if_neg (by omega)]
                  | some d =>
                    have h1 := notd d hq
                    obtain ⟨_, h6, _, h7, _⟩ := done_facts ok hc hq
                    show _ = if d < ((t + 1 : Nat) : Int) then Wd.done else if c.til < ((t + 1 : Nat) : Int) - 1 then Wd.late else .held
                    by_cases h8 : d < ((t + 1 : Nat) : Int)
                    · exfalso
                      refine h5 ⟨by omega, fun j hj => ?_⟩
                      obtain ⟨y, hy, hyd⟩ := h7 j hj
                      exact ⟨y, hy, by omega⟩
                    · rw [if_neg h8, if_neg (by omega)]
theorem sim_done {b : List Cmd} {comes : List (Option Int)} (ok : BookOk b) (h0 : ∀ x, some x ∈ comes → 0 ≤ x) {t k : Nat} {c : Cmd} (hc : b[k]? = some c) : (simS b comes t).getD k .none = .done ↔ ∃ d, (doneAt b comes).getD k none = some d ∧ d < t := by
  rw [sim_word ok h0 t k c hc]
  constructor
  · intro z
    unfold wordAt at z
    split at z
    · cases z
    · split at z
      · cases z
      · split at z
        · rename_i d hd
          split at z
          · exact ⟨d, hd, by assumption⟩
          · split at z <;> cases z
        · split at z <;> cases z
  · rintro ⟨d, hd, hdt⟩
    obtain ⟨⟨x, hx, hxd⟩, _⟩ := done_facts ok hc hd
    rw [hx, hd]
    show (if (t : Int) ≤ x then Wd.none else if d < (t : Int) then Wd.done else _) = _
    rw [if_neg (by omega), if_pos hdt]

/-! ### all letters, and the first ones (no program here) -/
def flyAt (d : Int) (ss : List (Int × Nat)) (t : Int) : List Lt := (ss.filter fun s => decide (s.1 + d = t)).map fun s => (false, s.2)
def craftS (b : List Cmd) (d : Int) (ss : List (Int × Nat)) : Nat → List Wd
  | 0 => List.replicate b.length .none
  | t + 1 => beatenF b (craftS b d ss t) (flyAt d ss t) t
theorem mem_fly {d t : Int} {ss : List (Int × Nat)} {k : Nat} : (false, k) ∈ flyAt d ss t ↔ ∃ s ∈ ss, s.1 + d = t ∧ s.2 = k := by
  unfold flyAt
  rw [List.mem_map]
  constructor
  · rintro ⟨s, hs, e⟩
    obtain ⟨h1, h2⟩ := List.mem_filter.mp hs
    exact ⟨s, h1, of_decide_eq_true h2, (Prod.mk.inj e).2⟩
  · rintro ⟨s, h1, h2, h3⟩
    exact ⟨s, List.mem_filter.mpr ⟨h1, decide_eq_true h2⟩, by rw [h3]⟩
theorem fly_ok {d t : Int} {ss : List (Int × Nat)} {n : Nat} (h : ∀ s ∈ ss, s.2 < n) : ∀ l ∈ flyAt d ss t, l.1 = false ∧ l.2 < n := by
  intro l hl
  unfold flyAt at hl
  obtain ⟨s, hs, rfl⟩ := List.mem_map.mp hl
  exact ⟨rfl, h s (List.mem_filter.mp hs).1⟩
theorem come_first_aux {d : Int} {k : Nat} : ∀ {ss : List (Int × Nat)} {cs : List (Option Int)}, k < cs.length → (ss.foldl (comeStep d) cs).getD k none = match cs.getD k none with
    | some x => some x
    | none => (ss.find? fun s => decide (s.2 = k)).map fun s => s.1 + d
  | [], cs, _ => by
    show cs.getD k none = _
    cases cs.getD k none <;> rfl
  | s :: ss, cs, hk => by
    rw [List.foldl_cons, come_first_aux (by rw [comeStep_len]; exact hk), List.find?_cons]
    unfold comeStep
    by_cases e : s.2 = k
    · subst e
      cases q : cs.getD s.2 none with
      | none =>
        rw [if_pos rfl, getD_set_self hk]
        simp
      | some x =>
        rw [if_neg (by simp), q]
    · have e' : (decide (s.2 = k)) = false := decide_eq_false e
      rw [e']
      by_cases q : cs.getD s.2 none = none
      · rw [if_pos q, getD_set_ne e]
      · rw [if_neg q]
theorem come_first {n : Nat} {d : Int} {ss : List (Int × Nat)} {k : Nat} (hk : k < n) : (comesOf n d ss).getD k none = (ss.find? fun s => decide (s.2 = k)).map fun s => s.1 + d := by
  unfold comesOf
  rw [come_first_aux (by simpa using hk)]
  have e : (List.replicate n (none : Option Int)).getD k none = none := by
    rw [List.getD_eq_getElem?_getD, List.getElem?_replicate]; split <;> rfl
  rw [e]
theorem find_least {p : Int × Nat → Bool} : ∀ {ss : List (Int × Nat)} {s : Int × Nat}, ss.Pairwise (fun a b => a.1 < b.1) → s ∈ ss → p s = true → ∃ s0, ss.find? p = some s0 ∧ p s0 = true ∧ s0.1 ≤ s.1 ∧ s0 ∈ ss
  | [], _, _, h, _ => by simp at h
  | a :: ss, s, up, h, hp => by
    rw [List.pairwise_cons] at up
    rw [List.find?_cons]
    cases q : p a with
    | true =>
      refine ⟨a, rfl, q, ?_, by simp⟩
      rcases List.mem_cons.mp h with e | e
      · rw [e]; exact Int.le_refl _
      · have := up.1 s e; omega
    | false =>
      have hs : s ∈ ss := by
        rcases List.mem_cons.mp h with e | e
        · rw [e, q] at hp; cases hp
        · exact e
      obtain ⟨s0, h1, h2, h3, h4⟩ := find_least up.2 hs hp
      exact ⟨s0, h1, h2, h3, List.mem_cons_of_mem _ h4⟩
theorem comes_pos {n : Nat} {d : Int} {ss : List (Int × Nat)} (hd : 0 ≤ d) (h0 : ∀ s ∈ ss, 0 ≤ s.1) : ∀ x, some x ∈ comesOf n d ss → 0 ≤ x := by
  intro x hx
  obtain ⟨k, hk⟩ := List.mem_iff_getElem?.mp hx
  have hkn : k < n := by
    have := (List.getElem?_eq_some_iff.mp hk).1
    rwa [comesOf_len] at this
  have e := come_first (d := d) (ss := ss) hkn
  rw [List.getD_eq_getElem?_getD, hk] at e
  have e' : some x = (ss.find? fun s => decide (s.2 = k)).map fun s => s.1 + d := e
  obtain ⟨s, h1, h2⟩ := Option.map_eq_some_iff.mp e'.symm
  have := h0 s (List.mem_of_find?_eq_some h1)
  omega
theorem craft_sim {b : List Cmd} {d : Int} {ss : List (Int × Nat)} (ok : BookOk b) (hd : 0 ≤ d) (h0 : ∀ s ∈ ss, 0 ≤ s.1) (hn : ∀ s ∈ ss, s.2 < b.length) (up : ss.Pairwise (fun a b => a.1 < b.1)) : ∀ t, craftS b d ss t = simS b (comesOf b.length d ss) t
  | 0 => rfl
  | t + 1 => by
    have hp := comes_pos (n := b.length) hd h0
    rw [craftS, simS, craft_sim ok hd h0 hn up t]
    unfold beatenF
    congr 1
    have hl : (simS b (comesOf b.length d ss) t).length = b.length := simS_len
    refine ext_getD .none (by rw [foldl_heard_len, foldl_heard_len]) fun k hk => ?_
    rw [foldl_heard_len, hl] at hk
    rw [foldl_cmd (fun l h => by rw [hl]; exact fly_ok hn l h), foldl_cmd (fun l h => by rw [hl]; exact lettersAt_ok l h)]
    have hb : b[k]? = some b[k] := List.getElem?_eq_getElem hk
    have e : ((false, k) ∈ flyAt d ss t ∧ (simS b (comesOf b.length d ss) t).getD k .none = .none ∧ k < (simS b (comesOf b.length d ss) t).length) ↔ ((false, k) ∈ lettersAt b.length (comesOf b.length d ss) t ∧ (simS b (comesOf b.length d ss) t).getD k .none = .none ∧ k < (simS b (comesOf b.length d ss) t).length) := by
      constructor
      · rintro ⟨h1, h2, h3⟩
        refine ⟨?_, h2, h3⟩
        rw [mem_lettersAt]
        refine ⟨hk, ?_⟩
        obtain ⟨s, hs, e1, e2⟩ := mem_fly.mp h1
        obtain ⟨s0, f1, f2, f3, f4⟩ := find_least (p := fun s => decide (s.2 = k)) up hs (decide_eq_true e2)
        have ec := come_first (d := d) (ss := ss) hk
        rw [f1] at ec
        have ec' : (comesOf b.length d ss).getD k none = some (s0.1 + d) := ec
        by_cases h4 : s0.1 + d = t
        · rw [ec', h4]
        · exfalso
          rw [sim_word ok hp t k _ hb, ec'] at h2
          unfold wordAt at h2
          simp only at h2
          rw [if_neg (by omega)] at h2
          split at h2
          · split at h2
            · cases h2
            · split at h2 <;> cases h2
          · split at h2 <;> cases h2
      · rintro ⟨h1, h2, h3⟩
        refine ⟨?_, h2, h3⟩
        obtain ⟨_, ec⟩ := mem_lettersAt.mp h1
        rw [come_first hk] at ec
        obtain ⟨s, f1, f2⟩ := Option.map_eq_some_iff.mp ec
        exact mem_fly.mpr ⟨s, List.mem_of_find?_eq_some f1, f2, by have := List.find?_some f1; exact of_decide_eq_true this⟩
    simp only [e]
theorem all_done_sim {b : List Cmd} {d : Int} {ss : List (Int × Nat)} (ok : BookOk b) (bt : BookTo b 60) (hd : 0 ≤ d) (h0 : ∀ s ∈ ss, 0 ≤ s.1) (hn : ∀ s ∈ ss, s.2 < b.length) (up : ss.Pairwise (fun a b => a.1 < b.1)) :
    craftS b d ss 111 = List.replicate b.length .done ↔ allDone b d ss = true := by
  have hp := comes_pos (n := b.length) hd h0
  rw [craft_sim ok hd h0 hn up]
  have hl : (simS b (comesOf b.length d ss) 111).length = b.length := simS_len
  have e1 : simS b (comesOf b.length d ss) 111 = List.replicate b.length .done ↔ ∀ k, k < b.length → (simS b (comesOf b.length d ss) 111).getD k .none = .done := by
    constructor
    · intro e k hk
      rw [e, List.getD_eq_getElem?_getD, List.getElem?_replicate, if_pos hk]; rfl
    · intro h
      refine ext_getD .none (by rw [hl]; simp) fun k hk => ?_
      rw [hl] at hk
      rw [h k hk, List.getD_eq_getElem?_getD, List.getElem?_replicate, if_pos hk]; rfl
  rw [e1]
  have e2 : allDone b d ss = true ↔ ¬ none ∈ doneAt b (comesOf b.length d ss) := by
    unfold allDone
    simp
  rw [e2]
  constructor
  · intro h hm
    obtain ⟨k, hk⟩ := List.mem_iff_getElem?.mp hm
    have hkn : k < b.length := by
      have := (List.getElem?_eq_some_iff.mp hk).1
      rwa [doneAt_len] at this
    obtain ⟨x, hx, _⟩ := (sim_done ok hp (List.getElem?_eq_getElem hkn)).mp (h k hkn)
    rw [List.getD_eq_getElem?_getD, hk] at hx
    cases hx
  · intro h k hk
    have hb : b[k]? = some b[k] := List.getElem?_eq_getElem hk
    rw [sim_done ok hp hb]
    have hkd : k < (doneAt b (comesOf b.length d ss)).length := by rw [doneAt_len]; exact hk
    cases q : (doneAt b (comesOf b.length d ss)).getD k none with
    | none =>
      exfalso
      apply h
      rw [List.getD_eq_getElem?_getD, List.getElem?_eq_getElem hkd] at q
      have q' : (doneAt b (comesOf b.length d ss))[k] = none := q
      rw [← q']
      exact List.getElem_mem hkd
    | some x =>
      refine ⟨x, rfl, ?_⟩
      obtain ⟨_, _, h3, _⟩ := done_facts ok hb q
      have := bt _ (List.getElem_mem hk)
      show x < ((111 : Nat) : Int)
      omega
theorem keep_up {ss : List (Int × Nat)} {lost : List Nat} (up : ss.Pairwise (fun a b => a.1 < b.1)) : (keepS ss lost).Pairwise (fun a b => a.1 < b.1) := by
  unfold keepS
  rw [List.pairwise_filterMap]
  refine List.Pairwise.imp (R := fun a b => a < b) ?_ List.pairwise_lt_range
  intro i j hij x hx y hy
  have hx' : (if i ∈ lost then none else ss[i]?) = some x := hx
  have hy' : (if j ∈ lost then none else ss[j]?) = some y := hy
  split at hx'
  · cases hx'
  · split at hy'
    · cases hy'
    · obtain ⟨h1, e1⟩ := List.getElem?_eq_some_iff.mp hx'
      obtain ⟨h2, e2⟩ := List.getElem?_eq_some_iff.mp hy'
      rw [← e1, ← e2]
      exact List.pairwise_iff_getElem.mp up i j h1 h2 hij
theorem keep_mem {ss : List (Int × Nat)} {lost : List Nat} {s : Int × Nat} (h : s ∈ keepS ss lost) : s ∈ ss := by
  unfold keepS at h
  obtain ⟨k, _, hk⟩ := List.mem_filterMap.mp h
  split at hk
  · cases hk
  · exact List.mem_of_getElem? hk
/-! ### the fewest, the least -/
theorem findSome_cut {α β : Type} {f : α → Option β} : ∀ {l : List α} {y : β}, l.findSome? f = some y → ∃ (j : Nat) (x : α), l[j]? = some x ∧ f x = some y ∧ ∀ z ∈ l.take j, f z = none
  | [], y, h => by cases h
  | a :: l, y, h => by
    rw [List.findSome?_cons] at h
    cases q : f a with
    | some z =>
      rw [q] at h
      exact ⟨0, a, rfl, by rw [q]; exact h, by simp⟩
    | none =>
      rw [q] at h
      obtain ⟨j, x, h1, h2, h3⟩ := findSome_cut h
      refine ⟨j + 1, x, by simpa using h1, h2, fun z hz => ?_⟩
      rw [List.take_succ_cons] at hz
      rcases List.mem_cons.mp hz with e | e
      · rw [e]; exact q
      · exact h3 z e
theorem find_cut {α : Type} {p : α → Bool} : ∀ {l : List α} {y : α}, l.find? p = some y → ∃ j : Nat, l[j]? = some y ∧ p y = true ∧ ∀ z ∈ l.take j, p z = false
  | [], y, h => by cases h
  | a :: l, y, h => by
    rw [List.find?_cons] at h
    cases q : p a with
    | true =>
      rw [q] at h
      have e : a = y := Option.some.inj h
      subst e
      exact ⟨0, rfl, q, by simp⟩
    | false =>
      rw [q] at h
      obtain ⟨j, h1, h2, h3⟩ := find_cut h
      refine ⟨j + 1, by simpa using h1, h2, fun z hz => ?_⟩
      rw [List.take_succ_cons] at hz
      rcases List.mem_cons.mp hz with e | e
      · rw [e]; exact q
      · exact h3 z e
section
variable {b : List Cmd} {d : Int} {ss : List (Int × Nat)} {most : Nat}
theorem weak_none (h : weakF b d ss most = none) {y : List Nat} (h1 : y.length ≤ most) (h2 : y.Pairwise (· < ·)) (h3 : ∀ x ∈ y, x < ss.length) : allDone b d (keepS ss y) = true := by
  unfold weakF at h
  rw [List.findSome?_eq_none_iff] at h
  have z := h y.length (by simp; omega)
  rw [List.find?_eq_none] at z
  have z2 := z y (mem_choices.mpr ⟨rfl, h2, fun x hx => ⟨Nat.zero_le _, h3 x hx⟩⟩)
  simpa using z2
theorem weak_some {lost : List Nat} (h : weakF b d ss most = some lost) : lost.length ≤ most ∧ lost.Pairwise (· < ·) ∧ (∀ x ∈ lost, x < ss.length) ∧ allDone b d (keepS ss lost) = false ∧
    ∀ y : List Nat, y.Pairwise (· < ·) → (∀ x ∈ y, x < ss.length) → (y.length < lost.length ∨ y.length = lost.length ∧ lexN y lost = true) → allDone b d (keepS ss y) = true := by
  unfold weakF at h
  obtain ⟨j, size, h1, h2, h3⟩ := findSome_cut h
  have hj : j < most + 1 := by
    have := (List.getElem?_eq_some_iff.mp h1).1
    simpa using this
  have es : size = j := by
    rw [List.getElem?_range hj] at h1
    exact (Option.some.inj h1).symm
  subst es
  obtain ⟨i, g1, g2, g3⟩ := find_cut h2
  obtain ⟨m1, m2, m3⟩ := mem_choices.mp (List.mem_of_getElem? g1)
  refine ⟨by omega, m2, fun x hx => (m3 x hx).2, by simpa using g2, ?_⟩
  intro y y2 y3 hy
  have ym : ∀ z, y.length = z → y ∈ choicesF ss.length z 0 := fun z hz => mem_choices.mpr ⟨hz, y2, fun x hx => ⟨Nat.zero_le _, y3 x hx⟩⟩
  rcases hy with hy | ⟨hy, hlx⟩
  · have hlt : y.length < size := by omega
    have z := h3 y.length (by
      refine List.mem_iff_getElem?.mpr ⟨y.length, ?_⟩
      rw [List.getElem?_take, if_pos hlt, List.getElem?_range (by omega)])
    rw [List.find?_eq_none] at z
    have z2 := z y (ym _ rfl)
    simpa using z2
  · obtain ⟨a, ha⟩ := List.mem_iff_getElem?.mp (ym size (by omega))
    have up := List.pairwise_iff_getElem.mp (choices_up (n := ss.length) (k := size) (low := 0))
    obtain ⟨la, ea⟩ := List.getElem?_eq_some_iff.mp ha
    obtain ⟨li, ei⟩ := List.getElem?_eq_some_iff.mp g1
    by_cases hai : a < i
    · have z := g3 y (List.mem_iff_getElem?.mpr ⟨a, by rw [List.getElem?_take, if_pos hai]; exact ha⟩)
      simpa using z
    · exfalso
      by_cases e : a = i
      · subst e
        have : y = lost := ea.symm.trans ei
        rw [this, lexN_irr] at hlx
        cases hlx
      · have := up i a li la (by omega)
        rw [ea, ei] at this
        rw [lexN_asym this] at hlx
        cases hlx
end
theorem rise_same : ∀ {xs ys : List Int}, xs.Pairwise (· < ·) → ys.Pairwise (· < ·) → (∀ z, z ∈ xs ↔ z ∈ ys) → xs = ys
  | [], [], _, _, _ => rfl
  | [], y :: ys, _, _, h => by have := (h y).mpr (by simp); simp at this
  | x :: xs, [], _, _, h => by have := (h x).mp (by simp); simp at this
  | x :: xs, y :: ys, hx, hy, h => by
    rw [List.pairwise_cons] at hx hy
    have e : x = y := by
      rcases List.mem_cons.mp ((h x).mp (by simp)) with q | q
      · exact q
      · rcases List.mem_cons.mp ((h y).mpr (by simp)) with q2 | q2
        · exact q2.symm
        · have := hy.1 x q; have := hx.1 y q2; omega
    subst e
    rw [rise_same hx.2 hy.2 fun z => ?_]
    constructor
    · intro hz
      rcases List.mem_cons.mp ((h z).mp (List.mem_cons_of_mem _ hz)) with q | q
      · have := hx.1 z hz; omega
      · exact q
    · intro hz
      rcases List.mem_cons.mp ((h z).mpr (List.mem_cons_of_mem _ hz)) with q | q
      · have := hy.1 z hz; omega
      · exact q
theorem few_of {α : Type} [DecidableEq α] : ∀ {l m : List α}, l.Nodup → (∀ x ∈ l, x ∈ m) → l.length ≤ m.length
  | [], _, _, _ => Nat.zero_le _
  | x :: l, m, nd, h => by
    rw [List.nodup_cons] at nd
    have hm := h x (by simp)
    have ih := few_of (l := l) (m := m.erase x) nd.2 fun y hy => by
      have hne : y ≠ x := fun e => nd.1 (e ▸ hy)
      exact (List.mem_erase_of_ne hne).mpr (h y (List.mem_cons_of_mem _ hy))
    have := List.length_erase_of_mem hm
    have hp : 0 < m.length := List.length_pos_of_mem hm
    simp only [List.length_cons]
    omega

/-! ### the law's look by a craft -/
def encFl (d : Int) (s : Int × Nat) : D := .tup [.int (s.1 + d), encLt (false, s.2)]
def spLAll : DSp := fun ds M Q => ∃ (b : List Cmd) (d : Int) (ss : List (Int × Nat)) (lost : List Nat) (ld : D), ds = [encB b, .int d, .lst (ss.map encSd), ld] ∧ BookOk b ∧ BookTo b 60 ∧ 0 ≤ d ∧ SendsOk b.length ss ∧ ss.length ≤ 12 ∧ IsL M ld (lost.map encN) ∧ ∀ M', Ext M M' → Q (.bl (allDone b d (keepS ss lost))) M'
section
variable {P : Program} {w : World} {K : PySem.W.Frag} {mg : Str → Option Value} {base : Heap}
theorem ok_L_all_done {C : Addr} {f : Addr} {fd : FuncData} (Fn : Fun K "_law_all_done" "_law_all_done" s_L_all_done f fd) (zl : mg "len" = none) (zr : mg "range" = none) (kC : Ki K C ["book", "state", "next_beat"]) (cM : Mkr P w K mg base 4 "Craft" C (spCraftInit C)) (cB : Mth P w K mg base 3 C "beat" (spCraftBeat C)) :
    FnOk P w K mg base CX0 6 f fd ["_law_book_here", "_law_delay", "_law_sends", "_law_lost"] (lift K spLAll) := by
  refine fun_ok Fn sc_L_all_done (fun ds M Q ⟨_, _, _, _, _, e, _⟩ => by rw [e]; rfl) fun cdv A outer sh H E hr ds M Q h B => ?_
  obtain ⟨b, d, ss, lost, ld, rfl, ok, bt, hd, hso, hs12, hL, k⟩ := h
  have h8 := ok.le
  have hbp : 0 < b.length := List.length_pos_iff.mpr ok.ne
  wtm_at "b"
  refine sx_par (i := 4) (j := 5) rfl sc_L_all_done.nd rfl rfl (by decide) rfl rfl rfl rfl rfl rfl ?_
  wtm_at "mk"
  wtm_at "g L_all_done"
  refine fun x hx => ⟨x, b, rfl, ok, mupd_same, rfl, ?_⟩
  rw [mupd_mupd]
  wtm_at "g L_all_done"
  refine bx_lenB ?_
  refine ox_repT (by omega) (by omega) ?_
  have e6 : D.tup (List.replicate (b.length : Int).toNat (D.str "none")) = encSt (List.replicate b.length .none) := by
    rw [Int.toNat_natCast]; unfold encSt; rw [List.map_replicate]; rfl
  rw [e6]
  have hL1 : IsL (mupd M x (craftO C b (List.replicate b.length .none) 0)) ld (lost.map encN) := (Ext.new hx).isL hL
  wtm_at "g L_all_done"
  wtm_at "slcp L_all_done 0"
  case f => exact fun dd => match dd with
    | .int kk => if kk.toNat ∈ lost then none else (ss[kk.toNat]?).map (encFl d)
    | _ => none
  refine lx_range1 rfl zr rfl ?_
  wtm_at "g L_all_done"
  rw [List.length_map]
  refine ⟨_, rfl, by omega, by omega, ⟨?_, fun dd M3 hd3 hm => ?_⟩, ?_⟩
  · rw [rangeD_len]
    exact Nat.lt_of_le_of_lt (by omega : _ ≤ 12) (by decide)
  · obtain ⟨m, hm0⟩ := List.mem_iff_getElem?.mp hd3
    obtain ⟨hmlt, rfl⟩ := rangeD_at hm0
    have hm1 : m < ss.length := by omega
    have es : (ss.map encSd)[m]? = some (encSd ss[m]) := by rw [List.getElem?_map, List.getElem?_eq_getElem hm1]; rfl
    have et : ((0 : Int) + (m : Int)).toNat = m := by omega
    refine fun s1 H1 C1 cl1 fp1 => txs_one ?_
    wtm_at "wb L_all_done"
    refine ox_notInI (Ext.isL hm hL1) rfl ?_ ?_
    · simp only [List.all_map, List.all_eq_true]
      intro y _; rfl
    have e0 : inD (.int (0 + (m : Int))) (lost.map encN) = decide (m ∈ lost) := by
      have e1 : lost.map encN = (lost.map fun n : Nat => (n : Int)).map D.int := by rw [List.map_map]; rfl
      rw [e1, inD_int]
      refine dec_of ?_
      simp only [Int.zero_add, List.mem_map]
      constructor
      · rintro ⟨a, ha, e⟩
        have : a = m := by omega
        exact this ▸ ha
      · exact fun hx => ⟨m, hx, rfl⟩
    rw [e0]
    refine asB_bl (ite_ndec (fun h4 => fun s2 H2 C2 cl2 fp2 => ?_) (fun h4 => ?_))
    · wtm_at "gb L_all_done"
      refine ix_l (atI_of (j := m) (by omega) es) ?_
      unfold encSd
      wtm_at "gb L_all_done"
      refine ix_l (atI_of (j := m) (by omega) es) ?_
      unfold encSd
      wtm_at "gb L_all_done"
      refine ⟨rfl, ?_⟩
      show (if ((0 : Int) + (m : Int)).toNat ∈ lost then none else (ss[((0 : Int) + (m : Int)).toNat]?).map (encFl d)) = _
      rw [et, if_neg h4, List.getElem?_eq_getElem hm1]
      rfl
    · refine ⟨rfl, ?_⟩
      show (if ((0 : Int) + (m : Int)).toNat ∈ lost then none else (ss[((0 : Int) + (m : Int)).toNat]?).map (encFl d)) = none
      rw [et, if_pos h4]
  have eK : (rangeD 0 (ss.length : Int).toNat).filterMap (fun dd => match dd with
    | .int kk => if kk.toNat ∈ lost then none else (ss[kk.toNat]?).map (encFl d)
    | _ => none) = (keepS ss lost).map (encFl d) := by
    unfold rangeD keepS
    rw [List.filterMap_map, List.map_filterMap]
    refine congrArg (fun f => List.filterMap f (List.range ss.length)) (funext fun k => ?_)
    show (if ((0 : Int) + (k : Int)).toNat ∈ lost then none else (ss[((0 : Int) + (k : Int)).toNat]?).map (encFl d)) = _
    have et : ((0 : Int) + (k : Int)).toNat = k := by omega
    rw [et]
    by_cases hk : k ∈ lost
    · rw [if_pos hk, if_pos hk]; rfl
    · rw [if_neg hk, if_neg hk]
  rw [eK]
  have hk12 : (keepS ss lost).length ≤ 12 := by
    unfold keepS
    have := List.length_filterMap_le (fun k => if k ∈ lost then none else ss[k]?) (List.range ss.length)
    rw [List.length_range] at this
    omega
  have hkm : ∀ s ∈ keepS ss lost, 0 ≤ s.1 ∧ s.1 ≤ 199 ∧ s.2 < b.length := fun s hs => hso.ok s (keep_mem hs)
  have eall := all_done_sim (ss := keepS ss lost) ok bt hd (fun s hs => (hkm s hs).1) (fun s hs => (hkm s hs).2.2) (keep_up hso.up)
  generalize keepS ss lost = ks at *
  wtm_at "g L_all_done"
  refine sx_for PassesOwn.never rfl (fun _ => rfl) ?_
  refine lx_range1 rfl zr rfl ?_
  wtm_at "g L_all_done"
  refine ⟨_, rfl, by decide, by decide, fun i G' M' => ∃ (a7 a8 a9 a10 : Option D), G' = [some (encB b), some (.int d), some (.lst (ss.map encSd)), some ld, some (.ref x), some (encSt (craftS b d ks i)), some (.lst (ks.map (encFl d))), a7, a8, a9, a10] ∧ M' x = some (craftO C b (craftS b d ks i) i) ∧ ∀ a o, a ≠ x → M a = some o → M' a = some o,
    ⟨_, _, _, _, rfl, mupd_same, fun a o ha e => by rw [mupd_ne ha]; exact e⟩, ?_, ?_⟩
  · rintro i dd G' M' hdd ⟨a7, a8, a9, a10, rfl, hx', hE'⟩
    obtain ⟨hi, rfl⟩ := rangeD_at hdd
    have hi' : i < 111 := by simpa using hi
    have hcl : ∀ t, (craftS b d ks t).length = b.length := fun t => by
      induction t with
      | zero => simp [craftS]
      | succ t ih => rw [craftS, beatenF_len]; exact ih
    wtm_at "g L_all_done"
    wtm_at "m"
    wtm_at "g L_all_done"
    refine ⟨x, C, _, _, _, rfl, hx', cB, hr.mono (by decide), (by wtm_at "ln"), ?_⟩
    wtm_at "g L_all_done"
    wtm_at "lcp L_all_done 1"
    case f => exact fun dd => match dd with
      | .tup [.int tt, l] => if tt = (i : Int) then some l else none
      | _ => none
    refine lx_list ?_
    wtm_at "g L_all_done"
    refine ⟨_, rfl, ⟨?_, fun dd M3 hd3 hm => ?_⟩, ?_⟩
    · rw [List.length_map]
      exact Nat.lt_of_le_of_lt hk12 (by decide)
    · obtain ⟨s, hs, rfl⟩ := List.mem_map.mp hd3
      refine ⟨_, rfl, rfl, fun s1 H1 C1 cl1 fp1 => txs_one ?_⟩
      wtm_at "wb L_all_done"
      refine ite_dec (fun h4 => fun s2 H2 C2 cl2 fp2 => ?_) (fun h4 => ?_)
      · wtm_at "wb L_all_done"
        refine ⟨rfl, ?_⟩
        show (if s.1 + d = (i : Int) then some _ else none) = _
        rw [if_pos (by omega)]
      · refine ⟨rfl, ?_⟩
        show (if s.1 + d = (i : Int) then some _ else none) = _
        rw [if_neg (by omega)]
    have eF : (ks.map (encFl d)).filterMap (fun dd => match dd with
      | .tup [.int tt, l] => if tt = (i : Int) then some l else none
      | _ => none) = (flyAt d ks i).map encLt := by
      unfold flyAt
      rw [List.filterMap_map, List.map_map]
      clear hkm hk12 eall eK k hx' hcl
      induction ks with
      | nil => rfl
      | cons s ks ih =>
        rw [List.filterMap_cons, List.filter_cons]
        have e1 : ((fun dd => match dd with
          | .tup [.int tt, l] => if tt = (i : Int) then some l else none
          | _ => none) ∘ encFl d) s = if s.1 + d = (i : Int) then some (encLt (false, s.2)) else none := rfl
        rw [e1]
        by_cases h : s.1 + d = (i : Int)
        · rw [if_pos h, if_pos (decide_eq_true h), List.map_cons, ← ih]; rfl
        · rw [if_neg h, if_neg (by simpa using h)]
          exact ih
    rw [eF]
    wtm_at "g L_all_done"
    refine ⟨x, b, craftS b d ks i, i, flyAt d ks i, _, rfl, ok, hcl i, hx', by omega, .inl rfl, fun l hl => (fly_ok (fun s hs => (hkm s hs).2.2) l hl).2, fun M4 hE4 => ?_⟩
    refine ⟨_, _, _, _, rfl, mupd_same, fun a o ha e => ?_⟩
    rw [mupd_ne ha]
    exact hE4 _ _ (hE' a o ha e)
  · rintro G' M' ⟨a7, a8, a9, a10, rfl, hx', hE'⟩
    rw [rangeD_len]
    wtm_at "g L_all_done"
    refine bx_lenB ?_
    refine ox_repT (by omega) (by omega) ?_
    have e7 : D.tup (List.replicate (b.length : Int).toNat (D.str "done")) = encSt (List.replicate b.length .done) := by
      rw [Int.toNat_natCast]; unfold encSt; rw [List.map_replicate]; rfl
    rw [e7]
    refine ox_eqD hr.units (okEq_tup strs_okE (by decide)) (okEq_tup strs_okE (by decide)) ?_
    have e8 : eqD (encSt (craftS b d ks 111)) (encSt (List.replicate b.length .done)) = allDone b d ks := by
      unfold encSt
      rw [eqD_tup, eqDs_encW]
      cases q : allDone b d ks with
      | true => exact decide_eq_true (eall.mpr q)
      | false => exact decide_eq_false fun z => by rw [eall.mp z] at q; cases q
    show Q (.bl (eqD (encSt (craftS b d ks 111)) _)) M'
    rw [e8]
    exact k M' fun a o e => hE' a o (mne e hx) e
end

/-! ### the law -/
def toldD : Option (List Nat) → D
  | none => .non
  | some l => .lst (l.map encN)
def lessB (out : List Nat) : Option (List Nat) → Bool
  | none => true
  | some lost => decide (out.length < lost.length) || (decide (out.length = lost.length) && lexN out lost)
theorem weak_less {b : List Cmd} {d : Int} {ss : List (Int × Nat)} {most : Nat} {out : List Nat} (h1 : out.length ≤ most) (h2 : out.Pairwise (· < ·)) (h3 : ∀ x ∈ out, x < ss.length) (h4 : lessB out (weakF b d ss most) = true) : allDone b d (keepS ss out) = true := by
  cases e : weakF b d ss most with
  | none => exact weak_none e h1 h2 h3
  | some lost =>
    rw [e] at h4
    refine (weak_some e).2.2.2.2 out h2 h3 ?_
    have h5 : (decide (out.length < lost.length) || (decide (out.length = lost.length) && lexN out lost)) = true := h4
    rcases Bool.or_eq_true_iff.mp h5 with h | h
    · exact .inl (of_decide_eq_true h)
    · obtain ⟨g1, g2⟩ := Bool.and_eq_true_iff.mp h
      exact .inr ⟨of_decide_eq_true g1, g2⟩
theorem nats_of {zs : List Int} (h : ∀ z ∈ zs, 0 ≤ z) : zs = (zs.map Int.toNat).map fun n : Nat => (n : Int) := by
  induction zs with
  | nil => rfl
  | cons z zs ih =>
    have hz := h z (by simp)
    rw [List.map_cons, List.map_cons, ← ih fun y hy => h y (List.mem_cons_of_mem _ hy)]
    congr 1
    omega
theorem filter_less {kk : Nat} : ∀ {l : List Nat}, kk ∈ l → (l.filter fun n => decide (n ≠ kk)).length < l.length
  | [], h => by simp at h
  | a :: l, h => by
    rw [List.filter_cons]
    by_cases e : a = kk
    · rw [if_neg (by simpa using e)]
      have := List.length_filter_le (fun n => decide (n ≠ kk)) l
      simp only [List.length_cons]; omega
    · rw [if_pos (by simpa using e)]
      have hm : kk ∈ l := by
        rcases List.mem_cons.mp h with q | q
        · exact absurd q.symm e
        · exact q
      have := filter_less hm
      simp only [List.length_cons]; omega
theorem arePy_nats {l : List Nat} : arePy (l.map encN) = true := by
  induction l with
  | nil => unfold arePy; rfl
  | cons n l ih =>
    rw [List.map_cons]
    unfold arePy encN D.isPy
    exact ih
theorem encN_ints {l : List Nat} : l.map encN = (l.map fun n : Nat => (n : Int)).map D.int := by rw [List.map_map]; rfl
theorem okE_nats {l : List Nat} : ∀ d ∈ l.map encN, d.okE = true ∧ d.dep ≤ 0 := fun d hd => by
  obtain ⟨n, _, rfl⟩ := List.mem_map.mp hd
  exact ⟨rfl, Nat.le_refl 0⟩
section
variable {P : Program} {w : World} {K : PySem.W.Frag} {mg : Str → Option Value} {base : Heap}
theorem ok_law {f : Addr} {fd : FuncData} (Fn : Fun K "law" "law" s_law f fd) (zr : mg "range" = none) (zl : mg "len" = none) (zS : mg "sorted" = none) (zs : mg "set" = none) (zx : mg "max" = none) (dT : Dfn P w K mg base 1 "_law_taken" spTaken) (dBk : Dfn P w K mg base 2 "_law_book" spBook)
    (dW : Dfn P w K mg base 5 "weak" spWeak) (dA : Dfn P w K mg base 6 "_law_all_done" spLAll) : FnOk P w K mg base CX0 8 f fd ["_law_script"] (lift K spTrue) := by
  refine fun_ok Fn sc_law (fun ds M Q ⟨_, e, _⟩ => by rw [e]; rfl) fun cdv A outer sh H E hr ds M Q h B => ?_
  obtain ⟨ns, rfl, hl, rfl, k⟩ := h
  have hu65 : (A.deeper (envOfC "law" (defScope s_law) sh.heap.objs.size f cdv)).units + 65 < cLine := by have := hr.un; omega
  wtm_at "b"
  wtm_at "g law"
  refine ex_lstM ?_
  wtm_at "g law"
  refine fun r fr => ?_
  have hR0 : Row ns r (mupd noM r (.lst [.fzl (ns.map D.int), .int 0, .int 0])) := ⟨0, 0, mupd_same, by decide, by decide⟩
  wtm_at "g law"
  refine sx_for PassesOwn.never rfl (fun _ => rfl) ?_
  refine lx_range1 rfl zr rfl ?_
  wtm_at "g law"
  refine ⟨_, rfl, by decide, by decide, fun i G' M' => ∃ (a2 a3 a4 a5 a6 a7 a8 a9 a10 a11 a12 a13 : Option D), G' = [some (.fzl (ns.map D.int)), some (.ref r), a2, a3, a4, a5, a6, a7, a8, a9, a10, a11, a12, a13] ∧ Row ns r M', ⟨_, _, _, _, _, _, _, _, _, _, _, _, rfl, hR0⟩, ?_, ?_⟩
  · rintro i dd G' M' hd ⟨a2, a3, a4, a5, a6, a7, a8, a9, a10, a11, a12, a13, rfl, hR⟩
    wtm_at "g law"
    refine sx_par (i := 3) (j := 4) rfl sc_law.nd rfl rfl (by decide) rfl rfl rfl rfl rfl rfl ?_
    wtm_at "g law"
    refine ⟨ns, r, _, rfl, hR, by decide, fun k1 M1 x0 x1 hR1 hB1 => ?_⟩
    refine ix_li (ns := [20, 60]) x0 x1 fun far hfar => ?_
    have hfar' : far = 20 ∨ far = 60 := by simpa using hfar
    wtm_at "g law"
    refine ⟨ns, r, 5, far, rfl, hR1, by decide, by decide, by omega, by omega, fun b M2 ok bl bt hR2 hK2 => ?_⟩
    have bt60 : BookTo b 60 := fun c hc => by have := bt c hc; omega
    have h8 := ok.le
    have hbp : 0 < b.length := List.length_pos_iff.mpr ok.ne
    wtm_at "g law"
    refine ⟨ns, r, _, rfl, hR2, by decide, fun k3 M3 y0 y1 hR3 hB3 => ?_⟩
    have hd1 : 1 ≤ 1 + k3 ∧ 1 + k3 ≤ 9 := by omega
    wtm_at "g law"
    refine ex_lstM (ax_nil ⟨Nat.zero_le _, fun c fc => ?_⟩)
    have hcr : c ≠ r := hR3.ne fc
    wtm_at "g law"
    refine sx_for PassesOwn.never rfl (fun _ => rfl) ?_
    refine lx_range1 rfl zr rfl ?_
    wtm_at "g law"
    refine ⟨ns, r, _, rfl, hR3.upd hcr, by decide, fun kk M6 u0 u1 hR6 hB6 => ?_⟩
    refine ⟨_, rfl, by omega, by omega, fun i G' M' => ∃ (ss : List (Int × Nat)) (bt : Int), ∃ (a2 a7 a8 a9 a10 a11 a12 a13 : Option D), G' = [some (.fzl (ns.map D.int)), some (.ref r), a2, some (encB b), some (.int (1 + k3)), some (.ref c), some (.int bt), a7, a8, a9, a10, a11, a12, a13] ∧ ss.length = i ∧ SendsOk b.length ss ∧ (∀ s ∈ ss, s.1 ≤ bt) ∧ 0 ≤ bt ∧ bt ≤ 3 * (i : Int) ∧ Row ns r M' ∧ M' c = some (.lst (ss.map encSd)),
        ⟨[], 0, _, _, _, _, _, _, _, _, rfl, rfl, ⟨by simp, .nil⟩, by simp, by omega, by omega, hR6, by rw [hB6 c hcr]; exact mupd_same⟩, ?_, ?_⟩
    · rintro i dd G' M' hd ⟨ss, bt, a2, a7, a8, a9, a10, a11, a12, a13, rfl, hsl, hso, hsb, hbt0, hbt1, hR7, hc7⟩
      obtain ⟨hi, rfl⟩ := rangeD_at hd
      have hi12 : i < 12 := by omega
      wtm_at "g law"
      refine ⟨ns, r, _, rfl, hR7, by decide, fun k5 M8 v0 v1 hR8 hB8 => ?_⟩
      wtm_at "g law"
      refine ⟨ns, r, _, rfl, hR8, by decide, fun k6 M9 w0 w1 hR9 hB9 => ?_⟩
      refine ox_mul (.inl ⟨by omega, by omega⟩) ?_
      have hmul : 0 ≤ k5 * k6 ∧ k5 * k6 ≤ 2 := by
        have : k6 = 0 ∨ k6 = 1 := by omega
        rcases this with e | e
        · rw [e]; omega
        · rw [e]; omega
      generalize k5 * k6 = km at hmul
      wtm_at "g law"
      have hc9 : M9 c = some (.lst (ss.map encSd)) := by rw [hB9 c hcr, hB8 c hcr]; exact hc7
      refine ex_append rfl rfl rfl rfl rfl ?_
      wtm_at "g law"
      refine ⟨c, _, rfl, hc9, ?_⟩
      wtm_at "g law"
      refine bx_lenB ?_
      wtm_at "g law"
      refine ox_mod (by omega) ?_
      wtm_at "g law"
      refine bx_lenB ?_
      wtm_at "g law"
      refine ⟨ns, r, _, rfl, hR9, by omega, fun k7 Ma g0 g1 hRa hBa => ?_⟩
      wtm_at "g law"
      refine ⟨ns, r, _, rfl, hRa, by decide, fun k8 Mb l0 l1 hRb hBb => ?_⟩
      refine ix_li (ns := [(0 + (i : Int)) % (b.length : Int), k7]) l0 l1 fun nm hnm => ?_
      have hnm' : 0 ≤ nm ∧ nm < b.length := by
        have : nm = (0 + (i : Int)) % (b.length : Int) ∨ nm = k7 := by simpa using hnm
        rcases this with e | e
        · rw [e]
          exact ⟨Int.emod_nonneg _ (by omega), Int.emod_lt_of_pos _ (by omega)⟩
        · omega
      obtain ⟨nn, rfl⟩ : ∃ nn : Nat, nm = (nn : Int) := ⟨nm.toNat, by omega⟩
      wtm_at "g law"
      refine ⟨_, by rw [hBb c hcr, hBa c hcr]; exact hc9, ?_, ?_⟩
      · rw [List.length_map]
        exact Nat.lt_of_le_of_lt (by omega : _ ≤ 12) (by decide)
      wtm_at "g law"
      refine ⟨ss ++ [(bt + 1 + km, nn)], bt + 1 + km, _, _, _, _, _, _, _, _, rfl, by simp [hsl], ⟨?_, ?_⟩, ?_, by omega, by omega, hRb.upd hcr, ?_⟩
      · intro s hs
        rcases List.mem_append.mp hs with hs | hs
        · exact hso.ok s hs
        · rw [List.mem_singleton.mp hs]
          exact ⟨by show 0 ≤ bt + 1 + km; omega, by show bt + 1 + km ≤ 199; omega, by show nn < b.length; omega⟩
      · rw [List.pairwise_append]
        refine ⟨hso.up, by simp, fun s hs s' hs' => ?_⟩
        rw [List.mem_singleton.mp hs']
        have := hsb s hs
        show s.1 < bt + 1 + km
        omega
      · intro s hs
        rcases List.mem_append.mp hs with hs | hs
        · have := hsb s hs; omega
        · rw [List.mem_singleton.mp hs]; exact Int.le_refl _
      · rw [mupd_same, List.map_append]; rfl
    · rintro G' M' ⟨ss, bt, a2, a7, a8, a9, a10, a11, a12, a13, rfl, hsl, hso, hsb, hbt0, hbt1, hR7, hc7⟩
      rw [rangeD_len] at hsl
      have hs12 : ss.length ≤ 12 := by omega
      refine sxs_freeze (i := 5) rfl hc7 ?_
      have hR8 := hR7.del hcr
      generalize mdel M' c = M8 at hR8
      clear hc7 hR7 hbt1 hbt0 hsb hsl
      wtm_at "b"
      wtm_at "g law"
      refine ⟨ns, r, _, rfl, hR8, by decide, fun km M9 n0 n1 hR9 hB9 => ?_⟩
      obtain ⟨most, rfl⟩ : ∃ m : Nat, km = (m : Int) := ⟨km.toNat, by omega⟩
      have hmost : most ≤ 3 := by omega
      wtm_at "g law"
      -- what follows once it is told
      have rest : ∀ (W : Option (List Nat)) (Mz : Mem) (a2 a6 a7 a10 a11 a12 a13 : Option D), W = weakF b (1 + k3) ss most → Row ns r Mz →
          SXs B (X_law P w K mg base f cdv A outer sh H E) ((loopBody ((defBody s_law).getD 1 (.Pass ⟨0, 0, 0, 0⟩))).drop 6) ((En.sq (En.df Q) (SXs B (X_law P w K mg base f cdv A outer sh H E) ((defBody s_law).drop 2) (En.df Q))).lp (fun G' M' => ∃ (a2 a3 a4 a5 a6 a7 a8 a9 a10 a11 a12 a13 : Option D), G' = [some (.fzl (ns.map D.int)), some (.ref r), a2, a3, a4, a5, a6, a7, a8, a9, a10, a11, a12, a13] ∧ Row ns r M')) [some (.fzl (ns.map D.int)), some (.ref r), a2, some (encB b), some (.int (1 + k3)), some (.lst (ss.map encSd)), a6, a7, some (.int most), some (toldD W), a10, a11, a12, a13] Mz := by
        intro W Mz a2 a6 a7 a10 a11 a12 a13 eW hRz
        refine sxs_cons ?_
        refine sx_for PassesOwn.never rfl (fun _ => rfl) ?_
        refine lx_range1 rfl zr rfl ?_
        wtm_at "h law"
        refine ⟨_, rfl, by decide, by decide, fun i G' M' => ∃ (a2 a6 a7 a10 a11 a12 a13 : Option D), G' = [some (.fzl (ns.map D.int)), some (.ref r), a2, some (encB b), some (.int (1 + k3)), some (.lst (ss.map encSd)), a6, a7, some (.int most), some (toldD W), a10, a11, a12, a13] ∧ Row ns r M', ⟨_, _, _, _, _, _, _, rfl, hRz⟩, ?_, ?_⟩
        · rintro i dd G' M' hd ⟨a2, a6, a7, a10, a11, a12, a13, rfl, hRa⟩
          wtm_at "h law"
          wtm_at "ss"
          wtm_at "lc law 1"
          refine lx_range1 rfl zr rfl ?_
          wtm_at "h law"
          refine ⟨_, rfl, by omega, by omega, fun L hL => ?_⟩
          have hLr : L ≠ r := hRa.ne hL
          refine ⟨fun j acc M6 => ∃ zs : List Int, acc = zs.map D.int ∧ zs.length = j ∧ (∀ z ∈ zs, 0 ≤ z ∧ z < max 1 (ss.length : Int)) ∧ Row ns r M6, ⟨[], rfl, rfl, by simp, hRa.upd hLr⟩, ?_, ?_⟩
          · rintro j d acc M6 hd6 ⟨zz, rfl, hzl, hzb, hR6⟩ hM
            obtain ⟨hj, rfl⟩ := rangeD_at hd6
            refine fun s1 H1 C1 cl1 fp1 => txs_nil (iteT fun s2 H2 C2 cl2 fp2 => ?_)
            wtm_at "gb law"
            rw [List.length_map]
            refine bx_max2 rfl ?_
            have emx : (if (ss.length : Int) > 1 then (ss.length : Int) else 1) = max 1 (ss.length : Int) := by
              rw [Int.max_def]; split <;> split <;> omega
            rw [emx]
            wtm_at "gb law"
            refine ⟨ns, r, _, rfl, hR6, by omega, fun k7 M7 g0 g1 hR7 hB7 => ?_⟩
            refine ⟨by rw [hB7 L hLr]; exact hM, ?_, zz ++ [k7], by rw [List.map_append]; rfl, by simp [hzl], ?_, hR7.upd hLr⟩
            · rw [List.length_map]
              exact Nat.lt_of_le_of_lt (by omega : _ ≤ 3) (by decide)
            · intro z hz
              rcases List.mem_append.mp hz with h | h
              · exact hzb z h
              · rw [List.mem_singleton.mp h]; exact ⟨g0, g1⟩
          · rintro acc M6 ⟨zz, rfl, hzl, hzb, hR6⟩ hM
            rw [rangeD_len] at hzl
            have hR6' : Row ns r (mdel M6 L) := hR6.del hLr
            generalize mdel M6 L = M7 at hR6'
            refine ⟨zz, .inl rfl, by omega, fun outI hup hmem => ?_⟩
            have hpos : ∀ z ∈ outI, 0 ≤ z := fun z hz => (hzb z ((hmem z).mp hz)).1
            have eout := nats_of hpos
            generalize outI.map Int.toNat = out at eout
            have hup2 : out.Pairwise (· < ·) := by
              rw [eout, List.pairwise_map] at hup
              exact hup.imp fun h => by omega
            have hmem2 : ∀ x ∈ out, (x : Int) < max 1 (ss.length : Int) := fun x hx => (hzb _ ((hmem _).mp (by rw [eout]; exact List.mem_map.mpr ⟨x, hx, rfl⟩))).2
            have hlen : out.length ≤ most := by
              have nd : outI.Nodup := by
                have := hup
                exact this.imp fun h => by omega
              have := few_of nd fun z hz => (hmem z).mp hz
              rw [eout, List.length_map] at this
              omega
            rw [eout, ← encN_ints]
            refine sxs_cons ?_
            refine sx_set (i := 12) (x := "_law_is_less") (Lc.of sc_law.nd rfl rfl (.inl rfl) a_law_12) rfl ?_
            refine EX.imp (Q := fun d M1 => d = .bl (lessB out W) ∧ M1 = M7) ?_ (fun d M1 ⟨e1, e2⟩ => ?_)
            · cases W with
              | none =>
                unfold toldD
                wtm_at "h law"
                exact ⟨rfl, rfl⟩
              | some lost =>
                unfold toldD
                wtm_at "h law"
                rw [List.length_map, List.length_map]
                refine ite_dec (fun h1 => ?_) (fun h1 => ?_)
                · refine ⟨?_, rfl⟩
                  show _ = D.bl (decide (out.length < lost.length) || _)
                  rw [decide_eq_true (by omega)]; rfl
                · wtm_at "h law"
                  rw [List.length_map, List.length_map]
                  have e0 : decide (out.length < lost.length) = false := decide_eq_false (by omega)
                  refine ite_dec (fun h2 => ?_) (fun h2 => ?_)
                  · wtm_at "h law"
                    refine ox_ltD hr.units ?_ ?_ ?_ ?_ ?_ ?_
                    · unfold D.isPy; exact arePy_nats
                    · unfold D.isPy; exact arePy_nats
                    · unfold D.py
                      rw [encN_ints, encN_ints, pys_int, pys_int]
                      unfold PySem.W.alike
                      exact alike_ints _ _
                    · unfold D.py; exact fun z => nomatch z
                    · exact dep_lst.mpr ⟨by decide, fun d hd => Nat.le_trans (okE_nats d hd).2 (by decide)⟩
                    · refine ⟨?_, rfl⟩
                      unfold D.py
                      rw [encN_ints, encN_ints, pys_int, pys_int, lt_ints, lexN_int]
                      show _ = D.bl (decide (out.length < lost.length) || (decide (out.length = lost.length) && lexN out lost))
                      rw [e0, decide_eq_true (by omega : out.length = lost.length)]; rfl
                  · refine ⟨?_, rfl⟩
                    show _ = D.bl (decide (out.length < lost.length) || (decide (out.length = lost.length) && lexN out lost))
                    rw [e0, decide_eq_false (by omega : ¬ out.length = lost.length)]; rfl
            subst e1; subst e2
            wtm_at "h law"
            refine sx_ifQ (fun M1 => Row ns r M1) ?_ (fun M1 hR1 => ?_)
            · wtm_at "h law"
              refine ite_b (fun h1 => ?_) (fun h1 => ⟨rfl, hR6'⟩)
              wtm_at "h law"
              rw [List.length_map, List.length_map]
              refine ite_dec (fun h2 => ?_) (fun h2 => ⟨rfl, hR6'⟩)
              wtm_at "h law"
              refine ⟨b, _, ss, out, _, rfl, ok, bt60, by omega, hso, hs12, .inl rfl, fun M2 hE2 => ?_⟩
              have hin : ∀ x ∈ out, x < ss.length := by
                intro x hx
                have h3 := hmem2 x hx
                have h4 : 0 < out.length := List.length_pos_of_mem hx
                omega
              rw [weak_less hlen hup2 hin (by rw [← eW]; exact h1)]
              exact ⟨rfl, hR6'.ext hE2⟩
            wtm_at "h law"
            exact ⟨_, _, _, _, _, _, _, rfl, hR1⟩
        · rintro G' M' ⟨a2, a6, a7, a10, a11, a12, a13, rfl, hRa⟩
          refine sxs_one ?_
          refine sx_ifQ (fun M1 => Row ns r M1) ?_ (fun M1 hR1 => ?_)
          · refine tx_cmp rfl ?_
            refine ex_frz ?_
            wtm_at "h law"
            refine ⟨b, _, ss, 0, rfl, ok, hd1.1, hd1.2, hso, hs12, by decide, fun Ma hEa => ⟨fun hw => .inl ?_, fun lost l hw hl0 hla => .inr ⟨l, _, rfl, hla, ?_⟩⟩⟩
            · wtm_at "h law"
              refine ex_lst (ax_nil ⟨Nat.zero_le _, ?_⟩)
              wtm_at "h law"
              refine ox_notInTD hu65 rfl (okEq_tup (n := 1) (by simp [D.okE, okEs, D.dep, deps]) (by decide)) ?_
              exact ⟨rfl, hRa.ext hEa⟩
            · have hz : lost = [] := by
                have := (weak_some hw).1
                exact List.eq_nil_of_length_eq_zero (by omega)
              subst hz
              have hlr : l ≠ r := (hRa.ne hl0)
              wtm_at "h law"
              refine ex_lst (ax_nil ⟨Nat.zero_le _, ?_⟩)
              wtm_at "h law"
              refine ox_notInTD hu65 rfl (okEq_tup (n := 1) (by simp [D.okE, okEs, D.dep, deps]) (by decide)) ?_
              exact ⟨rfl, (hRa.ext hEa).del hlr⟩
          wtm_at "h law"
          exact ⟨_, _, _, _, _, _, _, _, _, _, _, _, rfl, hR1⟩
      refine ⟨b, _, ss, most, rfl, ok, hd1.1, hd1.2, hso, hs12, hmost, fun Ma hEa => ⟨fun hw => ?_, fun lost l hw hl0 hla => ?_⟩⟩
      · refine sxs_cons ?_
        refine sx_ifF ?_ (sxs_nil ?_)
        · wtm_at "h law"
          exact ⟨rfl, rfl⟩
        exact rest none Ma _ _ _ _ _ _ _ hw.symm (hR9.ext hEa)
      · have hlr : l ≠ r := hR9.ne hl0
        refine sxs_freeze (i := 9) rfl hla ?_
        have hRl : Row ns r (mdel Ma l) := (hR9.ext hEa).del hlr
        generalize mdel Ma l = Mb at hRl
        obtain ⟨w1, w2, w3, w4, w5⟩ := weak_some hw
        refine sxs_cons ?_
        refine sx_ifT ?_ ?_
        · wtm_at "h law"
          exact ⟨rfl, rfl⟩
        refine sxs_cons ?_
        refine sx_ifQ (fun M1 => Row ns r M1) ?_ (fun M1 hR1 => sxs_nil ?_)
        · wtm_at "h law"
          rw [List.length_map]
          refine ite_dec (fun h1 => by omega) (fun _ => ?_)
          wtm_at "h law"
          wtm_at "ss"
          wtm_at "h law"
          refine ⟨lost.map fun n : Nat => (n : Int), .inl (by rw [← encN_ints]), by rw [List.length_map]; omega, fun out hup hmem => ?_⟩
          have e1 : out = lost.map fun n : Nat => (n : Int) := rise_same hup (by rw [List.pairwise_map]; exact w2.imp fun h => by omega) hmem
          rw [e1, ← encN_ints]
          refine ox_neD hr.units (okEq_lst okE_nats (by decide)) (okEq_lst okE_nats (by decide)) ?_
          rw [eqD_self (by unfold D.okE; exact okEs_all.mpr fun d hd => (okE_nats d hd).1)]
          wtm_at "h law"
          refine ⟨b, _, ss, lost, _, rfl, ok, bt60, by omega, hso, hs12, .inl rfl, fun M2 hE2 => ?_⟩
          rw [w4]
          exact ⟨rfl, hRl.ext hE2⟩
        refine sxs_one ?_
        refine sx_for PassesOwn.never rfl (fun _ => rfl) ?_
        refine lx_list ?_
        wtm_at "h law"
        refine ⟨_, rfl, fun i G' M' => ∃ (a2 a6 a7 a10 a11 a12 a13 : Option D), G' = [some (.fzl (ns.map D.int)), some (.ref r), a2, some (encB b), some (.int (1 + k3)), some (.lst (ss.map encSd)), a6, a7, some (.int most), some (toldD (some lost)), a10, a11, a12, a13] ∧ Row ns r M', ⟨_, _, _, _, _, _, _, rfl, hR1⟩, ?_, ?_⟩
        · rintro i dd G' M' hd ⟨a2, a6, a7, a10, a11, a12, a13, rfl, hRa⟩
          rw [List.getElem?_map] at hd
          obtain ⟨kk, hkk, rfl⟩ := Option.map_eq_some_iff.mp hd
          wtm_at "h law"
          refine sx_ifQ (fun M1 => Row ns r M1) ?_ (fun M1 hR1 => ?_)
          · wtm_at "h law"
            wtm_at "lcp law 0"
            case f => exact fun d => match d with
              | .int j => if j = (kk : Int) then none else some d
              | _ => none
            refine lx_list ?_
            wtm_at "h law"
            refine ⟨_, rfl, ⟨?_, fun d M3 hd3 hm => ?_⟩, ?_⟩
            · rw [List.length_map]
              exact Nat.lt_of_le_of_lt (by omega : _ ≤ 3) (by decide)
            · obtain ⟨n, hn, rfl⟩ := List.mem_map.mp hd3
              unfold encN
              refine fun s1 H1 C1 cl1 fp1 => txs_one ?_
              wtm_at "wb law"
              refine ite_ndec (fun h4 => fun s2 H2 C2 cl2 fp2 => ?_) (fun h4 => ?_)
              · wtm_at "wb law"
                refine ⟨rfl, ?_⟩
                show (if (n : Int) = (kk : Int) then none else some _) = _
                rw [if_neg h4]
              · refine ⟨rfl, ?_⟩
                show (if (n : Int) = (kk : Int) then none else some _) = _
                rw [if_pos h4]
            have eF : (lost.map encN).filterMap (fun d => match d with
              | .int j => if j = (kk : Int) then none else some d
              | _ => none) = (lost.filter fun n => decide (n ≠ kk)).map encN := by
              clear hkk hd w1 w2 w3 w4 w5 hw hla rest
              induction lost with
              | nil => rfl
              | cons n l ih =>
                rw [List.map_cons, List.filterMap_cons, List.filter_cons]
                have e1 : (match encN n with
                  | .int j => if j = (kk : Int) then none else some (encN n)
                  | _ => none) = if (n : Int) = (kk : Int) then none else some (encN n) := rfl
                rw [e1]
                by_cases h : n = kk
                · rw [if_pos (by omega), if_neg (by simpa using h)]
                  exact ih
                · rw [if_neg (by omega), if_pos (by simpa using h), List.map_cons, ← ih]
            rw [eF]
            wtm_at "h law"
            refine ⟨b, _, ss, lost.filter (fun n => decide (n ≠ kk)), _, rfl, ok, bt60, by omega, hso, hs12, .inl rfl, fun M2 hE2 => ?_⟩
            rw [w5 _ (w2.filter _) (fun x hx => w3 x (List.mem_filter.mp hx).1) (.inl ?_)]
            · exact ⟨rfl, hRa.ext hE2⟩
            · exact filter_less (List.mem_of_getElem? hkk)
          wtm_at "h law"
          exact ⟨_, _, _, _, _, _, _, rfl, hR1⟩
        · rintro G' M' ⟨a2, a6, a7, a10, a11, a12, a13, rfl, hRa⟩
          exact rest (some lost) M' _ _ _ _ _ _ _ hw.symm hRa
  · rintro G' M' ⟨a2, a3, a4, a5, a6, a7, a8, a9, a10, a11, a12, a13, rfl, hR⟩
    wtm_at "g law"
    exact k _
end

def hfn : List He.DefD := [defAt ("is_number", none) "is_number" "is_number" s_is_number,
  defAt ("is_command", none) "is_command" "is_command" s_is_command,
  defAt ("need_book", none) "need_book" "need_book" s_need_book,
  defAt ("need_delay", none) "need_delay" "need_delay" s_need_delay,
  defAt ("done_at", none) "done_at" "done_at" s_done_at,
  defAt ("need_sends", none) "need_sends" "need_sends" s_need_sends,
  defAt ("all_done", none) "all_done" "all_done" s_all_done,
  defAt ("choices", none) "choices" "choices" s_choices,
  defAt ("weak", none) "weak" "weak" s_weak,
  defAt ("heard", none) "heard" "heard" s_heard,
  defAt ("gone_on", none) "gone_on" "gone_on" s_gone_on,
  defAt ("beaten", none) "beaten" "beaten" s_beaten,
  defAt ("blank", none) "blank" "blank" s_blank,
  defAt ("need_letters", none) "need_letters" "need_letters" s_need_letters,
  defAt ("Craft", some "__init__") "__init__" "Craft.__init__" s_Craft_init,
  defAt ("Craft", some "beat") "beat" "Craft.beat" s_Craft_beat,
  defAt ("_law_taken", none) "_law_taken" "_law_taken" s_L_taken,
  defAt ("_law_book", none) "_law_book" "_law_book" s_L_book,
  defAt ("_law_all_done", none) "_law_all_done" "_law_all_done" s_L_all_done,
  defAt ("law", none) "law" "law" s_law]
def hfa0 : List He.Fa := [.glo "is_number", .glo "is_command", .glo "need_book", .glo "need_delay", .glo "done_at", .glo "need_sends", .glo "all_done", .glo "choices", .glo "weak", .glo "heard", .glo "gone_on", .glo "beaten", .glo "blank", .glo "need_letters", .glo "_law_taken", .glo "_law_book", .glo "_law_all_done", .glo "law", .glo "Craft", .cls "Craft", .mkr "Craft", .noat "Craft" "book", .noat "Craft" "state", .noat "Craft" "next_beat", .meth "Craft" "beat", .free "bool", .free "enumerate", .free "int", .free "isinstance", .free "len"]
def hfa1 : List He.Fa := [.free "list", .free "max", .free "min", .free "range", .free "set", .free "sorted", .free "tuple", .str "BACK" "back", .str "CMD" "cmd", .str "DONE" "done", .str "HELD" "held", .str "LATE" "late", .int "MOST_BEAT" 200, .int "MOST_COMMANDS" 8, .int "MOST_DELAY" 9, .int "MOST_LOST" 3, .int "MOST_SENDS" 12, .str "NONE" "none"]
def hfa : List He.Fa := hfa0 ++ hfa1
def hloose0 : List Str := ["__name__", "LinkError", "BadBook", "BadDelay", "BadLetters", "TooMany", "BadCount", "Over", "MOST_COMMANDS", "MOST_BEAT", "MOST_DELAY", "NONE", "HELD", "DONE", "BACK", "LATE", "CMD", "is_number", "is_command", "need_book", "need_delay", "need_letters", "MOST_LOST", "done_at", "MOST_SENDS", "need_sends", "all_done", "choices", "weak", "heard"]
def hloose1 : List Str := ["gone_on", "beaten", "blank", "Craft", "_law_taken", "_law_book", "_law_all_done"]
def hloose : List Str := hloose0 ++ hloose1
def hexB (K : PySem.W.Frag) : Bool := true
abbrev hR : PySem.W.OpenRow := PySem.W.OpenLaw.row PySem.Challenge.rw_faruplink_k13_whole_told_losses_keep_it
abbrev hk : PySem.W.Hook := He.hookX 6 hfa hfn [] [] hexB
def hob (s : PySem.W.SharedT) : He.AlX := He.obsX 6 hfa hfn [] [] hexB (HandSHeadRun.getT s)
theorem hob_eq (s : PySem.W.SharedT) : hob s = hk.obs s.abs := He.obsX_eq (HandSHeadRun.getT_eq s)
set_option maxHeartbeats 0 in
theorem hrun (w : World) : HandSHeadRun.RunEq hR (PySem.W.view hR.prog [42]) hk hob 4000 hloose w := by
  intro os
  kernel_rfl
theorem hfacts {P : Program} {w : World} {K : PySem.W.Frag} {h : Heap} {mg : Str → Option Value} {fl : Addr} (X : K.In h) (G : h.Ns mainGlobals mg) (hfa0 : mg ("law" : Str) = some (.ref fl)) (c0 : He.SaysX hfa hfn [] [] hexB w h K) :
    ∃ fd : FuncData, (∀ (s : Shared) (v : Value), BindsTo s fd ⟨[v], []⟩ [("_law_script", v)]) ∧ ∀ base : Heap, K.In base → base.Ns mainGlobals mg → FnOk P w K mg base CX0 8 fl fd ["_law_script"] (lift K spTrue) := by
  have c : He.SaysD hfa hfn K := c0.t.d
  have cx : hexB K = true := c0.more
  have z_bool : mg "bool" = none := He.free_ok X G (c.fact 25 rfl)
  have z_enumerate : mg "enumerate" = none := He.free_ok X G (c.fact 26 rfl)
  have z_int : mg "int" = none := He.free_ok X G (c.fact 27 rfl)
  have z_isinstance : mg "isinstance" = none := He.free_ok X G (c.fact 28 rfl)
  have z_len : mg "len" = none := He.free_ok X G (c.fact 29 rfl)
  have z_list : mg "list" = none := He.free_ok X G (c.fact 30 rfl)
  have z_max : mg "max" = none := He.free_ok X G (c.fact 31 rfl)
  have z_min : mg "min" = none := He.free_ok X G (c.fact 32 rfl)
  have z_range : mg "range" = none := He.free_ok X G (c.fact 33 rfl)
  have z_set : mg "set" = none := He.free_ok X G (c.fact 34 rfl)
  have z_sorted : mg "sorted" = none := He.free_ok X G (c.fact 35 rfl)
  have z_tuple : mg "tuple" = none := He.free_ok X G (c.fact 36 rfl)
  have k_BACK := cst_str X G (x := "BACK") (z := "back") (c.fact 37 rfl)
  have k_CMD := cst_str X G (x := "CMD") (z := "cmd") (c.fact 38 rfl)
  have k_DONE := cst_str X G (x := "DONE") (z := "done") (c.fact 39 rfl)
  have k_HELD := cst_str X G (x := "HELD") (z := "held") (c.fact 40 rfl)
  have k_LATE := cst_str X G (x := "LATE") (z := "late") (c.fact 41 rfl)
  have k_MOST_BEAT := cst_int X G (x := "MOST_BEAT") (i := 200) (c.fact 42 rfl)
  have k_MOST_COMMANDS := cst_int X G (x := "MOST_COMMANDS") (i := 8) (c.fact 43 rfl)
  have k_MOST_DELAY := cst_int X G (x := "MOST_DELAY") (i := 9) (c.fact 44 rfl)
  have k_MOST_LOST := cst_int X G (x := "MOST_LOST") (i := 3) (c.fact 45 rfl)
  have k_MOST_SENDS := cst_int X G (x := "MOST_SENDS") (i := 12) (c.fact 46 rfl)
  have k_NONE := cst_str X G (x := "NONE") (z := "none") (c.fact 47 rfl)
  have g_Craft := He.glo_ok X G (c.fact 18 (f := .glo "Craft") rfl)
  have c_Craft := He.cls_ok (c.fact 19 (f := .cls "Craft") rfl)
  have n_Craft_book := He.noat_ok (c.fact 21 (f := .noat "Craft" "book") rfl)
  have n_Craft_state := He.noat_ok (c.fact 22 (f := .noat "Craft" "state") rfl)
  have n_Craft_next_beat := He.noat_ok (c.fact 23 (f := .noat "Craft" "next_beat") rfl)
  have k_Craft : Ki K (He.ga K "Craft") ["book", "state", "next_beat"] := ⟨c_Craft, by
    intro f hf
    simp only [List.mem_cons, List.not_mem_nil, or_false] at hf
    rcases hf with rfl | rfl | rfl
    · exact n_Craft_book
    · exact n_Craft_state
    · exact n_Craft_next_beat⟩
  obtain ⟨fd_is_number, F0_is_number⟩ := c.def_ 0 (d := defAt ("is_number", none) "is_number" "is_number" s_is_number) rfl
  have F_is_number : Fun K "is_number" "is_number" s_is_number _ fd_is_number := fun_of F0_is_number
  have m_is_number := He.glo_ok X G (c.fact 0 (f := .glo "is_number") rfl)
  have b_is_number := F_is_number.binds (ps := ["part", "low", "high"]) fun _ _ _ _ _ _ us hl => match us, hl with | [_, _, _], _ => rfl
  have d_is_number : ∀ base : Heap, Dfn P w K mg base 1 "is_number" spIsNumber := fun base => dfn_mk (by apply ok_is_number F_is_number <;> first | assumption | apply_assumption) m_is_number F_is_number.kp b_is_number
  obtain ⟨fd_is_command, F0_is_command⟩ := c.def_ 1 (d := defAt ("is_command", none) "is_command" "is_command" s_is_command) rfl
  have F_is_command : Fun K "is_command" "is_command" s_is_command _ fd_is_command := fun_of F0_is_command
  have m_is_command := He.glo_ok X G (c.fact 1 (f := .glo "is_command") rfl)
  have b_is_command := F_is_command.binds (ps := ["part", "number"]) fun _ _ _ _ _ _ us hl => match us, hl with | [_, _], _ => rfl
  have d_is_command : ∀ base : Heap, Dfn P w K mg base 2 "is_command" spIsCommand := fun base => dfn_mk (by apply ok_is_command F_is_command <;> first | assumption | apply_assumption) m_is_command F_is_command.kp b_is_command
  obtain ⟨fd_need_book, F0_need_book⟩ := c.def_ 2 (d := defAt ("need_book", none) "need_book" "need_book" s_need_book) rfl
  have F_need_book : Fun K "need_book" "need_book" s_need_book _ fd_need_book := fun_of F0_need_book
  have m_need_book := He.glo_ok X G (c.fact 2 (f := .glo "need_book") rfl)
  have b_need_book := F_need_book.binds (ps := ["book"]) fun _ _ _ _ _ _ us hl => match us, hl with | [_], _ => rfl
  have d_need_book : ∀ base : Heap, Dfn P w K mg base 3 "need_book" spNeedBook := fun base => dfn_mk (by apply ok_need_book F_need_book <;> first | assumption | apply_assumption) m_need_book F_need_book.kp b_need_book
  obtain ⟨fd_need_delay, F0_need_delay⟩ := c.def_ 3 (d := defAt ("need_delay", none) "need_delay" "need_delay" s_need_delay) rfl
  have F_need_delay : Fun K "need_delay" "need_delay" s_need_delay _ fd_need_delay := fun_of F0_need_delay
  have m_need_delay := He.glo_ok X G (c.fact 3 (f := .glo "need_delay") rfl)
  have b_need_delay := F_need_delay.binds (ps := ["delay"]) fun _ _ _ _ _ _ us hl => match us, hl with | [_], _ => rfl
  have d_need_delay : ∀ base : Heap, Dfn P w K mg base 2 "need_delay" spNeedDelay := fun base => dfn_mk (by apply ok_need_delay F_need_delay <;> first | assumption | apply_assumption) m_need_delay F_need_delay.kp b_need_delay
  obtain ⟨fd_done_at, F0_done_at⟩ := c.def_ 4 (d := defAt ("done_at", none) "done_at" "done_at" s_done_at) rfl
  have F_done_at : Fun K "done_at" "done_at" s_done_at _ fd_done_at := fun_of F0_done_at
  have m_done_at := He.glo_ok X G (c.fact 4 (f := .glo "done_at") rfl)
  have b_done_at := F_done_at.binds (ps := ["book", "comes"]) fun _ _ _ _ _ _ us hl => match us, hl with | [_, _], _ => rfl
  have d_done_at : ∀ base : Heap, Dfn P w K mg base 1 "done_at" spDoneAt := fun base => dfn_mk (by apply ok_done_at F_done_at <;> first | assumption | apply_assumption) m_done_at F_done_at.kp b_done_at
  obtain ⟨fd_need_sends, F0_need_sends⟩ := c.def_ 5 (d := defAt ("need_sends", none) "need_sends" "need_sends" s_need_sends) rfl
  have F_need_sends : Fun K "need_sends" "need_sends" s_need_sends _ fd_need_sends := fun_of F0_need_sends
  have m_need_sends := He.glo_ok X G (c.fact 5 (f := .glo "need_sends") rfl)
  have b_need_sends := F_need_sends.binds (ps := ["book", "sends"]) fun _ _ _ _ _ _ us hl => match us, hl with | [_, _], _ => rfl
  have d_need_sends : ∀ base : Heap, Dfn P w K mg base 2 "need_sends" spNeedSends := fun base => dfn_mk (by apply ok_need_sends F_need_sends <;> first | assumption | apply_assumption) m_need_sends F_need_sends.kp b_need_sends
  obtain ⟨fd_all_done, F0_all_done⟩ := c.def_ 6 (d := defAt ("all_done", none) "all_done" "all_done" s_all_done) rfl
  have F_all_done : Fun K "all_done" "all_done" s_all_done _ fd_all_done := fun_of F0_all_done
  have m_all_done := He.glo_ok X G (c.fact 6 (f := .glo "all_done") rfl)
  have b_all_done := F_all_done.binds (ps := ["book", "delay", "sends"]) fun _ _ _ _ _ _ us hl => match us, hl with | [_, _, _], _ => rfl
  have d_all_done : ∀ base : Heap, Dfn P w K mg base 2 "all_done" spAllDone := fun base => dfn_mk (by apply ok_all_done F_all_done <;> first | assumption | apply_assumption) m_all_done F_all_done.kp b_all_done
  obtain ⟨fd_choices, F0_choices⟩ := c.def_ 7 (d := defAt ("choices", none) "choices" "choices" s_choices) rfl
  have F_choices : Fun K "choices" "choices" s_choices _ fd_choices := fun_of F0_choices
  have m_choices := He.glo_ok X G (c.fact 7 (f := .glo "choices") rfl)
  have b_choices := F_choices.binds (ps := ["many", "size", "low"]) fun _ _ _ _ _ _ us hl => match us, hl with | [_, _, _], _ => rfl
  have d_choices : ∀ base : Heap, Dfn P w K mg base 4 "choices" (spChoices 3) := fun base => dfn_mk (by apply ok_choices F_choices <;> first | assumption | apply_assumption) m_choices F_choices.kp b_choices
  obtain ⟨fd_weak, F0_weak⟩ := c.def_ 8 (d := defAt ("weak", none) "weak" "weak" s_weak) rfl
  have F_weak : Fun K "weak" "weak" s_weak _ fd_weak := fun_of F0_weak
  have m_weak := He.glo_ok X G (c.fact 8 (f := .glo "weak") rfl)
  have b_weak := F_weak.binds (ps := ["book", "delay", "sends", "most"]) fun _ _ _ _ _ _ us hl => match us, hl with | [_, _, _, _], _ => rfl
  have d_weak : ∀ base : Heap, Dfn P w K mg base 5 "weak" spWeak := fun base => dfn_mk (by apply ok_weak F_weak <;> first | assumption | apply_assumption) m_weak F_weak.kp b_weak
  obtain ⟨fd_heard, F0_heard⟩ := c.def_ 9 (d := defAt ("heard", none) "heard" "heard" s_heard) rfl
  have F_heard : Fun K "heard" "heard" s_heard _ fd_heard := fun_of F0_heard
  have m_heard := He.glo_ok X G (c.fact 9 (f := .glo "heard") rfl)
  have b_heard := F_heard.binds (ps := ["state", "letter"]) fun _ _ _ _ _ _ us hl => match us, hl with | [_, _], _ => rfl
  have d_heard : ∀ base : Heap, Dfn P w K mg base 1 "heard" spHeard := fun base => dfn_mk (by apply ok_heard F_heard <;> first | assumption | apply_assumption) m_heard F_heard.kp b_heard
  obtain ⟨fd_gone_on, F0_gone_on⟩ := c.def_ 10 (d := defAt ("gone_on", none) "gone_on" "gone_on" s_gone_on) rfl
  have F_gone_on : Fun K "gone_on" "gone_on" s_gone_on _ fd_gone_on := fun_of F0_gone_on
  have m_gone_on := He.glo_ok X G (c.fact 10 (f := .glo "gone_on") rfl)
  have b_gone_on := F_gone_on.binds (ps := ["book", "state", "beat"]) fun _ _ _ _ _ _ us hl => match us, hl with | [_, _, _], _ => rfl
  have d_gone_on : ∀ base : Heap, Dfn P w K mg base 1 "gone_on" spGone := fun base => dfn_mk (by apply ok_gone_on F_gone_on <;> first | assumption | apply_assumption) m_gone_on F_gone_on.kp b_gone_on
  obtain ⟨fd_beaten, F0_beaten⟩ := c.def_ 11 (d := defAt ("beaten", none) "beaten" "beaten" s_beaten) rfl
  have F_beaten : Fun K "beaten" "beaten" s_beaten _ fd_beaten := fun_of F0_beaten
  have m_beaten := He.glo_ok X G (c.fact 11 (f := .glo "beaten") rfl)
  have b_beaten := F_beaten.binds (ps := ["book", "state", "letters", "beat"]) fun _ _ _ _ _ _ us hl => match us, hl with | [_, _, _, _], _ => rfl
  have d_beaten : ∀ base : Heap, Dfn P w K mg base 2 "beaten" spBeaten := fun base => dfn_mk (by apply ok_beaten F_beaten <;> first | assumption | apply_assumption) m_beaten F_beaten.kp b_beaten
  obtain ⟨fd_blank, F0_blank⟩ := c.def_ 12 (d := defAt ("blank", none) "blank" "blank" s_blank) rfl
  have F_blank : Fun K "blank" "blank" s_blank _ fd_blank := fun_of F0_blank
  have m_blank := He.glo_ok X G (c.fact 12 (f := .glo "blank") rfl)
  have b_blank := F_blank.binds (ps := ["book"]) fun _ _ _ _ _ _ us hl => match us, hl with | [_], _ => rfl
  have d_blank : ∀ base : Heap, Dfn P w K mg base 1 "blank" spBlank := fun base => dfn_mk (by apply ok_blank F_blank <;> first | assumption | apply_assumption) m_blank F_blank.kp b_blank
  obtain ⟨fd_need_letters, F0_need_letters⟩ := c.def_ 13 (d := defAt ("need_letters", none) "need_letters" "need_letters" s_need_letters) rfl
  have F_need_letters : Fun K "need_letters" "need_letters" s_need_letters _ fd_need_letters := fun_of F0_need_letters
  have m_need_letters := He.glo_ok X G (c.fact 13 (f := .glo "need_letters") rfl)
  have b_need_letters := F_need_letters.binds (ps := ["book", "letters"]) fun _ _ _ _ _ _ us hl => match us, hl with | [_, _], _ => rfl
  have d_need_letters : ∀ base : Heap, Dfn P w K mg base 2 "need_letters" spNeedLetters := fun base => dfn_mk (by apply ok_need_letters F_need_letters <;> first | assumption | apply_assumption) m_need_letters F_need_letters.kp b_need_letters
  obtain ⟨fd_Craft_init, F0_Craft_init⟩ := c.def_ 14 (d := defAt ("Craft", some "__init__") "__init__" "Craft.__init__" s_Craft_init) rfl
  have F_Craft_init : Fun K "__init__" "Craft.__init__" s_Craft_init _ fd_Craft_init := fun_of F0_Craft_init
  have b_Craft_init := F_Craft_init.binds (ps := ["self", "book"]) fun _ _ _ _ _ _ us hl => match us, hl with | [_, _], _ => rfl
  have m_Craft_init := He.mkr_ok (c.fact 20 (f := .mkr "Craft") rfl)
  have d_Craft_init : ∀ base : Heap, Mkr P w K mg base 4 "Craft" (He.ga K "Craft") (spCraftInit (He.ga K "Craft")) := fun base => ⟨_, _, _, (by apply ok_Craft_init F_Craft_init <;> first | assumption | apply_assumption), m_Craft_init, g_Craft, b_Craft_init⟩
  obtain ⟨fd_Craft_beat, F0_Craft_beat⟩ := c.def_ 15 (d := defAt ("Craft", some "beat") "beat" "Craft.beat" s_Craft_beat) rfl
  have F_Craft_beat : Fun K "beat" "Craft.beat" s_Craft_beat _ fd_Craft_beat := fun_of F0_Craft_beat
  have b_Craft_beat := F_Craft_beat.binds (ps := ["self", "letters"]) fun _ _ _ _ _ _ us hl => match us, hl with | [_, _], _ => rfl
  have m_Craft_beat := He.meth_ok (c.fact 24 (f := .meth "Craft" "beat") rfl)
  have d_Craft_beat : ∀ base : Heap, Mth P w K mg base 3 (He.ga K "Craft") "beat" (spCraftBeat (He.ga K "Craft")) := fun base => ⟨_, _, _, (by apply ok_Craft_beat F_Craft_beat <;> first | assumption | apply_assumption), c_Craft, m_Craft_beat, b_Craft_beat⟩
  obtain ⟨fd_taken, F0_taken⟩ := c.def_ 16 (d := defAt ("_law_taken", none) "_law_taken" "_law_taken" s_L_taken) rfl
  have F_taken : Fun K "_law_taken" "_law_taken" s_L_taken _ fd_taken := fun_of F0_taken
  have m_taken := He.glo_ok X G (c.fact 14 (f := .glo "_law_taken") rfl)
  have b_taken := F_taken.binds (ps := ["_law_row", "_law_many"]) fun _ _ _ _ _ _ us hl => match us, hl with | [_, _], _ => rfl
  have d_taken : ∀ base : Heap, Dfn P w K mg base 1 "_law_taken" spTaken := fun base => dfn_mk (by apply ok_taken F_taken <;> first | assumption | apply_assumption) m_taken F_taken.kp b_taken
  obtain ⟨fd_L_book, F0_L_book⟩ := c.def_ 17 (d := defAt ("_law_book", none) "_law_book" "_law_book" s_L_book) rfl
  have F_L_book : Fun K "_law_book" "_law_book" s_L_book _ fd_L_book := fun_of F0_L_book
  have m_L_book := He.glo_ok X G (c.fact 15 (f := .glo "_law_book") rfl)
  have b_L_book := F_L_book.binds (ps := ["_law_row", "_law_most", "_law_far"]) fun _ _ _ _ _ _ us hl => match us, hl with | [_, _, _], _ => rfl
  have d_L_book : ∀ base : Heap, Dfn P w K mg base 2 "_law_book" spBook := fun base => dfn_mk (by apply ok_L_book F_L_book <;> first | assumption | apply_assumption) m_L_book F_L_book.kp b_L_book
  obtain ⟨fd_L_all_done, F0_L_all_done⟩ := c.def_ 18 (d := defAt ("_law_all_done", none) "_law_all_done" "_law_all_done" s_L_all_done) rfl
  have F_L_all_done : Fun K "_law_all_done" "_law_all_done" s_L_all_done _ fd_L_all_done := fun_of F0_L_all_done
  have m_L_all_done := He.glo_ok X G (c.fact 16 (f := .glo "_law_all_done") rfl)
  have b_L_all_done := F_L_all_done.binds (ps := ["_law_book_here", "_law_delay", "_law_sends", "_law_lost"]) fun _ _ _ _ _ _ us hl => match us, hl with | [_, _, _, _], _ => rfl
  have d_L_all_done : ∀ base : Heap, Dfn P w K mg base 6 "_law_all_done" spLAll := fun base => dfn_mk (by apply ok_L_all_done F_L_all_done <;> first | assumption | apply_assumption) m_L_all_done F_L_all_done.kp b_L_all_done
  obtain ⟨fd_law, F0_law⟩ := c.def_ 19 (d := defAt ("law", none) "law" "law" s_law) rfl
  have F_law : Fun K "law" "law" s_law _ fd_law := fun_of F0_law
  have m_law := He.glo_ok X G (c.fact 17 (f := .glo "law") rfl)
  have e := hfa0.symm.trans m_law
  cases e
  exact ⟨fd_law, fun s v => FunD.bindsA (ps := ["_law_script"]) F0_law (fun _ _ _ _ _ _ us hl => match us, hl with | [_], _ => rfl) s [v] rfl, fun base _ _ => by apply ok_law F_law <;> first | assumption | apply_assumption⟩
end Lw
open PySem PySem.W PySem.Calls PyProof.Rows
set_option maxHeartbeats 0 in
theorem PySem.Challenge.cw_faruplink_k13_whole_told_losses_keep_it_holds : PySem.Challenge.rw_faruplink_k13_whole_told_losses_keep_it.Holds := by
  w_on; o_law
  refine HandSHeadRun.head_any (r := OpenLaw.row PySem.Challenge.rw_faruplink_k13_whole_told_losses_keep_it) (q := view (OpenLaw.row PySem.Challenge.rw_faruplink_k13_whole_told_losses_keep_it).prog [42]) (H := Lw.hk) (ob := Lw.hob) (M := 4000) (loose := Lw.hloose) (d := HandSHeadRun.topDef (OpenLaw.row PySem.Challenge.rw_faruplink_k13_whole_told_losses_keep_it).prog 42) (kwd := []) Lw.hob_eq
    (by kernel_rfl) (fun s => by kernel_rfl) Lw.hrun (by kernel_rfl) (by kernel_rfl) (by kernel_rfl) (by rfl) (by first | assumption | decide +kernel) (by decide +kernel) ⟨rfl, rfl, rfl, rfl, rfl, by decide +kernel⟩ ?hw ?hc
  case hw => w_witness2
  case hc =>
    refine L2.walk_ofE (l := PySem.Challenge.rw_faruplink_k13_whole_told_losses_keep_it) (n := 63) (k := 8) (x := "_law_script") (CX := L2.CX0) rfl (by decide) (by kernel_rfl) ⟨rfl, by decide, by decide⟩ ?F (fun _ _ _ _ z => z)
    intro w mg fa h Y G hmg0
    obtain ⟨K, KX, c⟩ := Y
    have hmg : mg ("law" : PySem.Str) = some (.ref fa) := by
      have e : (HandSHeadRun.topDef (OpenLaw.row PySem.Challenge.rw_faruplink_k13_whole_told_losses_keep_it).prog 42).name = ("law" : PySem.Str) := by kernel_rfl
      rw [← e]
      exact hmg0
    obtain ⟨fd, hb, hF⟩ := Lw.hfacts (P := (PySem.Challenge.rw_faruplink_k13_whole_told_losses_keep_it).prog) (w := w) KX G hmg c
    exact ⟨K, fd, FL.lift K FL.spTrue, KX, hb, fun H a ns hl _ hS => FL.law_sp hl hS, hF⟩
