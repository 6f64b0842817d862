import PyProof.Rows.All
import Wide.All
import OpenK.AllK
import Wide.FinOn
import HandS.ForMost
import HandS.IsInst
import HandS.Walk
import HandS.Conv
import HandS.FStr
import HandS.Lambda
import HandS.Defaults
import HandS.Head0
import HandS.Head1
import HandS.Head2
import HandS.HeadEnd
import HandS.HeadHook1
import HandS.HeadHook2
import HandS.HeadHook3
import HandS.HeadHook4
import KE.GoesMore
import HandS.TupAny
import HandS.TupMul
import HandS.SortInts
import KE.LtData
import HandS.WordsExc
import HandS.ExcInit
import HandS.ExcField
import HandS.ExcIs
import KE.KExcIs
import HandS.HeadWalk
import PySem.Challenge.RW_faruplink_k17_texts_refused
set_option Elab.async false
set_option linter.all false
set_option maxRecDepth 100000
set_option maxHeartbeats 2000000
/-! FL: a calculus over plain data. A state is: the slots' data (G), and the mutable cells (M). What is immutable has no address here. -/
namespace FL
open PySem PySem.Spec PyProof.Rows L2

/-- plain data -/
inductive D where
  | non | bl (b : Bool) | int (i : Int) | str (x : Str) | ref (a : Addr) | ty (n : String)
  | tup (ds : List D) | lst (ds : List D) | fzl (ds : List D)
  | dK (kvs : List (Key × D)) | dT (kvs : List (List Key × D))

mutual
/-- in the heap of what stays, F, the value is that data -/
inductive Rp (K : PySem.W.Frag) (F : Hp) : V → D → Prop
  | non : Rp K F .non .non
  | bl (b : Bool) : Rp K F (.bl b) (.bl b)
  | int (i : Int) : Rp K F (.int i) (.int i)
  | str (x : Str) : Rp K F (.str x) (.str x)
  | ref (a : Addr) : Rp K F (.ref a) (.ref a)
  | ty (n : String) : Rp K F (.ty n) (.ty n)
  | tup {a : Addr} {xs : List V} {ds : List D} : SqT K F a xs → RpAll K F xs ds → Rp K F (.ref a) (.tup ds)
  | lst {a : Addr} {xs : List V} {ds : List D} : F a = some (.lst xs) → RpAll K F xs ds → Rp K F (.ref a) (.lst ds)
  | fzl {a : Addr} {xs : List V} {ds : List D} : SqL K F a xs → RpAll K F xs ds → Rp K F (.ref a) (.fzl ds)
  | dK {a : Addr} {kvs : List (Key × V)} {kds : List (Key × D)} : F a = some (.dK kvs) → RpKey K F kvs kds → Rp K F (.ref a) (.dK kds)
  | dT {a : Addr} {kvs : List (List Key × V)} {kds : List (List Key × D)} : F a = some (.dT kvs) → RpTup K F kvs kds → Rp K F (.ref a) (.dT kds)
inductive RpAll (K : PySem.W.Frag) (F : Hp) : List V → List D → Prop
  | nil : RpAll K F [] []
  | cons {v : V} {vs : List V} {d : D} {ds : List D} : Rp K F v d → RpAll K F vs ds → RpAll K F (v :: vs) (d :: ds)
inductive RpKey (K : PySem.W.Frag) (F : Hp) : List (Key × V) → List (Key × D) → Prop
  | nil : RpKey K F [] []
  | cons {k : Key} {v : V} {vs : List (Key × V)} {d : D} {ds : List (Key × D)} : Rp K F v d → RpKey K F vs ds → RpKey K F ((k, v) :: vs) ((k, d) :: ds)
inductive RpTup (K : PySem.W.Frag) (F : Hp) : List (List Key × V) → List (List Key × D) → Prop
  | nil : RpTup K F [] []
  | cons {k : List Key} {v : V} {vs : List (List Key × V)} {d : D} {ds : List (List Key × D)} : Rp K F v d → RpTup K F vs ds → RpTup K F ((k, v) :: vs) ((k, d) :: ds)
end

theorem sq_same {K : PySem.W.Frag} {F F' : Hp} {a : Addr} {xs : List V} (e : Same F F') (h : SqT K F a xs) : SqT K F' a xs := by
  rcases h with (h | ⟨o, h⟩) | h
  · exact .inl (.inl (e _ _ h))
  · exact .inl (.inr ⟨o, e _ _ h⟩)
  · exact .inr h

mutual
theorem Rp.mono {K : PySem.W.Frag} {F F' : Hp} (e : Same F F') : ∀ {v : V} {d : D}, Rp K F v d → Rp K F' v d
  | _, _, .non => .non
  | _, _, .bl b => .bl b
  | _, _, .int i => .int i
  | _, _, .str x => .str x
  | _, _, .ref a => .ref a
  | _, _, .ty n => .ty n
  | _, _, .tup h r => .tup (sq_same e h) (RpAll.mono e r)
  | _, _, .lst h r => .lst (e _ _ h) (RpAll.mono e r)
  | _, _, .fzl h r => .fzl (e.seq h) (RpAll.mono e r)
  | _, _, .dK h r => .dK (e _ _ h) (RpKey.mono e r)
  | _, _, .dT h r => .dT (e _ _ h) (RpTup.mono e r)
theorem RpAll.mono {K : PySem.W.Frag} {F F' : Hp} (e : Same F F') : ∀ {vs : List V} {ds : List D}, RpAll K F vs ds → RpAll K F' vs ds
  | _, _, .nil => .nil
  | _, _, .cons h r => .cons (Rp.mono e h) (RpAll.mono e r)
theorem RpKey.mono {K : PySem.W.Frag} {F F' : Hp} (e : Same F F') : ∀ {vs : List (Key × V)} {ds : List (Key × D)}, RpKey K F vs ds → RpKey K F' vs ds
  | _, _, .nil => .nil
  | _, _, .cons h r => .cons (Rp.mono e h) (RpKey.mono e r)
theorem RpTup.mono {K : PySem.W.Frag} {F F' : Hp} (e : Same F F') : ∀ {vs : List (List Key × V)} {ds : List (List Key × D)}, RpTup K F vs ds → RpTup K F' vs ds
  | _, _, .nil => .nil
  | _, _, .cons h r => .cons (Rp.mono e h) (RpTup.mono e r)
end

section
variable {K : PySem.W.Frag} {F : Hp}
theorem RpAll.length : ∀ {vs : List V} {ds : List D}, RpAll K F vs ds → vs.length = ds.length
  | _, _, .nil => rfl
  | _, _, .cons _ r => by rw [List.length_cons, List.length_cons, RpAll.length r]
theorem RpAll.get : ∀ {vs : List V} {ds : List D} {i : Nat} {d : D}, RpAll K F vs ds → ds[i]? = some d → ∃ v, vs[i]? = some v ∧ Rp K F v d
  | _, _, _, _, .nil, h => by simp at h
  | _, _, 0, _, .cons r _, h => by
    simp at h; subst h; exact ⟨_, rfl, r⟩
  | _, _, i + 1, d, .cons _ r, h => by
    obtain ⟨v, h1, h2⟩ := RpAll.get (i := i) (d := d) r (by simpa using h)
    exact ⟨v, by simpa using h1, h2⟩
theorem RpAll.getV : ∀ {vs : List V} {ds : List D} {i : Nat} {v : V}, RpAll K F vs ds → vs[i]? = some v → ∃ d, ds[i]? = some d ∧ Rp K F v d
  | _, _, _, _, .nil, h => by simp at h
  | _, _, 0, _, .cons r _, h => by
    simp at h; subst h; exact ⟨_, rfl, r⟩
  | _, _, i + 1, v, .cons _ r, h => by
    obtain ⟨d, h1, h2⟩ := RpAll.getV (i := i) (v := v) r (by simpa using h)
    exact ⟨d, by simpa using h1, h2⟩
theorem RpAll.append : ∀ {vs ws : List V} {ds es : List D}, RpAll K F vs ds → RpAll K F ws es → RpAll K F (vs ++ ws) (ds ++ es)
  | _, _, _, _, .nil, s => s
  | _, _, _, _, .cons h r, s => .cons h (RpAll.append r s)
theorem RpAll.set : ∀ {vs : List V} {ds : List D} (i : Nat) {v : V} {d : D}, RpAll K F vs ds → Rp K F v d → RpAll K F (vs.set i v) (ds.set i d)
  | _, _, _, _, _, .nil, _ => .nil
  | _, _, 0, _, _, .cons _ r, h => .cons h r
  | _, _, i + 1, _, _, .cons q r, h => .cons q (RpAll.set i r h)
theorem RpAll.take : ∀ {vs : List V} {ds : List D} (n : Nat), RpAll K F vs ds → RpAll K F (vs.take n) (ds.take n)
  | _, _, 0, _ => .nil
  | _, _, _ + 1, .nil => .nil
  | _, _, n + 1, .cons h r => .cons h (RpAll.take n r)
theorem RpAll.drop : ∀ {vs : List V} {ds : List D} (n : Nat), RpAll K F vs ds → RpAll K F (vs.drop n) (ds.drop n)
  | _, _, 0, r => r
  | _, _, _ + 1, .nil => .nil
  | _, _, n + 1, .cons _ r => RpAll.drop n r
theorem RpAll.eraseIdx : ∀ {vs : List V} {ds : List D} (n : Nat), RpAll K F vs ds → RpAll K F (vs.eraseIdx n) (ds.eraseIdx n)
  | _, _, _, .nil => .nil
  | _, _, 0, .cons _ r => r
  | _, _, n + 1, .cons h r => .cons h (RpAll.eraseIdx n r)
theorem RpAll.ints : ∀ {ns : List Int}, RpAll K F (ns.map V.int) (ns.map D.int)
  | [] => .nil
  | _ :: _ => .cons (.int _) RpAll.ints
theorem RpAll.strs : ∀ {ns : List Str}, RpAll K F (ns.map V.str) (ns.map D.str)
  | [] => .nil
  | _ :: _ => .cons (.str _) RpAll.strs
end

/-- what stands in a mutable cell -/
inductive MO where
  | lst (ds : List D) | ins (C : Addr) (fs : List (Str × D)) | dK (kvs : List (Key × D)) | dT (kvs : List (List Key × D))
  | tbl (q : Str) | xd (f : Str) (n : Int)
abbrev Mem := Addr → Option MO
def mupd (M : Mem) (a : Addr) (o : MO) : Mem := fun b => if b = a then some o else M b
theorem mupd_same {M : Mem} {a : Addr} {o : MO} : mupd M a o a = some o := by unfold mupd; rw [if_pos rfl]
theorem mupd_ne {M : Mem} {a b : Addr} {o : MO} (h : b ≠ a) : mupd M a o b = M b := by unfold mupd; rw [if_neg h]
theorem mupd_mupd {M : Mem} {a : Addr} {o u : MO} : mupd (mupd M a o) a u = mupd M a u := by
  funext b; unfold mupd; split <;> rfl
/-- the cell is forgotten -/
def mdel (M : Mem) (a : Addr) : Mem := fun b => if b = a then none else M b
theorem mdel_mupd {M : Mem} {a : Addr} {o : MO} (h : M a = none) : mdel (mupd M a o) a = M := by
  funext b
  unfold mdel mupd
  by_cases e : b = a
  · subst e; rw [if_pos rfl, h]
  · rw [if_neg e, if_neg e]
theorem mne {M : Mem} {a b : Addr} {o : MO} (h : M a = some o) (h' : M b = none) : a ≠ b := by
  intro e; subst e; rw [h] at h'; cases h'
theorem mnes {M : Mem} {a b : Addr} {o : MO} (h : M a = some o) (h' : M b = none) : b ≠ a := fun e => mne h h' e.symm

/-- fields by name, in order -/
inductive FsRp (K : PySem.W.Frag) (F : Hp) : List (Str × V) → List (Str × D) → Prop
  | nil : FsRp K F [] []
  | cons {k : Str} {v : V} {vs : List (Str × V)} {d : D} {ds : List (Str × D)} : Rp K F v d → FsRp K F vs ds → FsRp K F ((k, v) :: vs) ((k, d) :: ds)
theorem FsRp.mono {K : PySem.W.Frag} {F F' : Hp} (e : Same F F') : ∀ {vs : List (Str × V)} {ds : List (Str × D)}, FsRp K F vs ds → FsRp K F' vs ds
  | _, _, .nil => .nil
  | _, _, .cons h r => .cons (h.mono e) (FsRp.mono e r)
def MRp (K : PySem.W.Frag) (F H : Hp) (a : Addr) : MO → Prop
  | .lst ds => ∃ xs, H a = some (.lst xs) ∧ RpAll K F xs ds
  | .ins C fs => ∃ dx vs, H a = some (.ins C dx vs) ∧ FsRp K F vs fs
  | .dK kvs => ∃ vs, H a = some (.dK vs) ∧ RpKey K F vs kvs
  | .dT kvs => ∃ vs, H a = some (.dT vs) ∧ RpTup K F vs kvs
  | .tbl q => ∃ ps : Array Value, H a = some (.tbl ps) ∧ TriplesOk ps.toList ∧ ∀ (pos : Pos) (cv : Value), codeAmong pos ps.toList = some cv → ∃ c, cv = .ref c ∧ F c = some (LamX.CodeO c q)
  | .xd f n => H a = some (.xd [(f, .int n)])
def MemOk (K : PySem.W.Frag) (F H : Hp) (M : Mem) : Prop := ∀ a o, M a = some o → F a = none ∧ MRp K F H a o
def SlotsOk (K : PySem.W.Frag) (F : Hp) (s : L2.St) (G : List (Option D)) : Prop := G.length = s.length ∧ ∀ (i : Nat) (d : D), G[i]? = some (some d) → ∃ v, s[i]? = some (some v) ∧ Rp K F v d
/-- where a piece of code began: what stays, the cells, the heap -/
structure Bs where
  F : Hp
  M : Mem
  H : Hp
/-- what was no cell is as it was -/
def Kp (M : Mem) (H : Hp) (M' : Mem) (H' : Hp) : Prop := ∀ a u, H a = some u → M a = none → H' a = some u ∧ M' a = none
theorem Kp.refl (M : Mem) (H : Hp) : Kp M H M H := fun _ _ h m => ⟨h, m⟩
theorem Kp.trans {M M1 M2 : Mem} {H H1 H2 : Hp} (a : Kp M H M1 H1) (b : Kp M1 H1 M2 H2) : Kp M H M2 H2 := fun x u h m => b x u (a x u h m).1 (a x u h m).2
theorem Kp.heap {M : Mem} {H H' : Hp} (e : Same H H') : Kp M H M H' := fun a u h m => ⟨e a u h, m⟩
theorem Kp.less {M M' : Mem} {H : Hp} (h : ∀ a o, M' a = some o → M a = some o) : Kp M H M' H := fun a u e m => ⟨e, by
  cases q : M' a with
  | none => rfl
  | some o => rw [h a o q] at m; cases m⟩
structure R (B : Bs) (K : PySem.W.Frag) (F : Hp) (s : L2.St) (H : Hp) (G : List (Option D)) (M : Mem) : Prop where
  slots : SlotsOk K F s G
  ex : Same F H
  mem : MemOk K F H M
  bf : Same B.F F
  bk : Kp B.M B.H M H

section
variable {B : Bs} {K : PySem.W.Frag} {F F' H H' : Hp} {s : L2.St} {G : List (Option D)} {M M' : Mem}
theorem MRp.mono {a : Addr} (e : Same F F') : ∀ {o : MO}, MRp K F H a o → MRp K F' H a o
  | .lst _, ⟨xs, h, r⟩ => ⟨xs, h, r.mono e⟩
  | .ins _ _, ⟨dx, vs, h, r⟩ => ⟨dx, vs, h, r.mono e⟩
  | .dK _, ⟨xs, h, r⟩ => ⟨xs, h, r.mono e⟩
  | .dT _, ⟨xs, h, r⟩ => ⟨xs, h, r.mono e⟩
  | .tbl _, ⟨ps, h, t, r⟩ => ⟨ps, h, t, fun pos cv z => by
    obtain ⟨c, e1, e2⟩ := r pos cv z
    exact ⟨c, e1, e _ _ e2⟩⟩
  | .xd _ _, h => h
theorem MRp.there {a : Addr} : ∀ {o : MO}, MRp K F H a o → ∃ u, H a = some u ∧ ∀ xs, u ≠ .tup xs
  | .lst _, ⟨xs, h, r⟩ => ⟨_, h, fun _ e => nomatch e⟩
  | .ins _ _, ⟨dx, vs, h, r⟩ => ⟨_, h, fun _ e => nomatch e⟩
  | .dK _, ⟨xs, h, r⟩ => ⟨_, h, fun _ e => nomatch e⟩
  | .dT _, ⟨xs, h, r⟩ => ⟨_, h, fun _ e => nomatch e⟩
  | .tbl _, ⟨ps, h, _⟩ => ⟨_, h, fun _ e => nomatch e⟩
  | .xd _ _, h => ⟨_, h, fun _ e => nomatch e⟩
theorem MRp.heap {a : Addr} (e : ∀ u, H a = some u → H' a = some u) : ∀ {o : MO}, MRp K F H a o → MRp K F H' a o
  | .lst _, ⟨xs, h, r⟩ => ⟨xs, e _ h, r⟩
  | .ins _ _, ⟨dx, vs, h, r⟩ => ⟨dx, vs, e _ h, r⟩
  | .dK _, ⟨xs, h, r⟩ => ⟨xs, e _ h, r⟩
  | .dT _, ⟨xs, h, r⟩ => ⟨xs, e _ h, r⟩
  | .tbl _, ⟨ps, h, r⟩ => ⟨ps, e _ h, r⟩
  | .xd _ _, h => e _ h
theorem SlotsOk.mono (e : Same F F') (h : SlotsOk K F s G) : SlotsOk K F' s G := ⟨h.1, fun i d q => by
  obtain ⟨v, h1, h2⟩ := h.2 i d q
  exact ⟨v, h1, h2.mono e⟩⟩
theorem SlotsOk.set {i : Nat} {v : V} {d : D} (h : SlotsOk K F s G) (r : Rp K F v d) : SlotsOk K F (s.set i (some v)) (G.set i (some d)) := by
  refine ⟨by simpa using h.1, fun j e q => ?_⟩
  by_cases hj : i = j
  · subst hj
    by_cases hi : i < G.length
    · rw [List.getElem?_set_self hi] at q
      cases q
      exact ⟨v, by rw [List.getElem?_set_self (by rw [← h.1]; exact hi)], r⟩
    · rw [List.getElem?_eq_none (by simpa using hi)] at q
      cases q
  · rw [List.getElem?_set_ne hj] at q ⊢
    exact h.2 j e q
theorem SlotsOk.setNone {i : Nat} {u : Option V} (h : SlotsOk K F s G) : SlotsOk K F (s.set i u) (G.set i none) := by
  refine ⟨by simpa using h.1, fun j e q => ?_⟩
  by_cases hj : i = j
  · subst hj
    by_cases hi : i < G.length
    · rw [List.getElem?_set_self hi] at q
      cases q
    · rw [List.getElem?_eq_none (by simpa using hi)] at q
      cases q
  · rw [List.getElem?_set_ne hj] at q ⊢
    exact h.2 j e q
/-- a new thing of the heap, nothing known of it -/
theorem MemOk.heap (e : Same H H') (h : MemOk K F H M) : MemOk K F H' M := fun a o q => ⟨(h a o q).1, (h a o q).2.heap fun u => e a u⟩
theorem Same.upd_new {p : Addr} {o : HO} (h : H p = none) : Same H (upd H p o) := fun b u q => by rw [upd_ne (ne_of_none q h)]; exact q
theorem R.heap (e : Same H H') (r : R B K F s H G M) : R B K F s H' G M := ⟨r.slots, r.ex.trans e, r.mem.heap e, r.bf, r.bk.trans (Kp.heap e)⟩
theorem R.freeF {p : Addr} (r : R B K F s H G M) (h : H p = none) : F p = none := r.ex.free h
theorem R.freeM {p : Addr} (r : R B K F s H G M) (h : H p = none) : M p = none := by
  cases q : M p with
  | none => rfl
  | some o =>
    obtain ⟨u, hu, _⟩ := (r.mem p o q).2.there
    rw [h] at hu; cases hu
/-- F may know more of the heap: what is no cell of M -/
theorem R.grow (e : Same F F') (e2 : Same F' H) (hm : ∀ a o, M a = some o → F' a = none) (r : R B K F s H G M) : R B K F' s H G M :=
  ⟨r.slots.mono e, e2, fun a o q => ⟨hm a o q, (r.mem a o q).2.mono e⟩, r.bf.trans e, r.bk⟩
/-- a new frozen thing at p -/
theorem R.new {p : Addr} {o : HO} (r : R B K F s H G M) (h : H p = none) : Same F (upd F p o) ∧ R B K (upd F p o) s (upd H p o) G M := by
  have e : Same F (upd F p o) := Same.upd_new (r.freeF h)
  have hp : M p = none := r.freeM h
  refine ⟨e, ?_⟩
  refine R.grow e (fun b u q => ?_) (fun a u q => ?_) (r.heap (Same.upd_new h))
  · by_cases hb : b = p
    · subst hb; rw [upd_same] at q ⊢; exact q
    · rw [upd_ne hb] at q ⊢; exact r.ex b u q
  · rw [upd_ne (mne q hp)]; exact (r.mem a u q).1
/-- a new cell at p -/
theorem R.newCell {p : Addr} {ho : HO} {o : MO} (r : R B K F s H G M) (h : H p = none) (k : MRp K F (upd H p ho) p o) : R B K F s (upd H p ho) G (mupd M p o) := by
  refine ⟨r.slots, r.ex.trans (Same.upd_new h), fun a u q => ?_, r.bf, r.bk.trans fun a u e m => ⟨Same.upd_new h a u e, by rw [mupd_ne (ne_of_none e h)]; exact m⟩⟩
  by_cases ha : a = p
  · subst ha; rw [mupd_same] at q; cases q; exact ⟨r.freeF h, k⟩
  · rw [mupd_ne ha] at q
    exact ⟨(r.mem a u q).1, (r.mem a u q).2.heap fun v e => by rw [upd_ne ha]; exact e⟩
/-- a cell is written -/
theorem R.write {p : Addr} {ho : HO} {o o' : MO} (r : R B K F s H G M) (h : M p = some o) (k : MRp K F (upd H p ho) p o') : R B K F s (upd H p ho) G (mupd M p o') := by
  have fp := (r.mem p o h).1
  refine ⟨r.slots, fun b u q => ?_, fun a u q => ?_, r.bf, r.bk.trans fun a u e m => ⟨by rw [upd_ne (fun z => by rw [z, h] at m; cases m)]; exact e, by rw [mupd_ne (fun z => by rw [z, h] at m; cases m)]; exact m⟩⟩
  · rw [upd_ne (ne_of_none q fp)]; exact r.ex b u q
  by_cases ha : a = p
  · subst ha; rw [mupd_same] at q; cases q; exact ⟨fp, k⟩
  · rw [mupd_ne ha] at q
    exact ⟨(r.mem a u q).1, (r.mem a u q).2.heap fun v e => by rw [upd_ne ha]; exact e⟩
/-- less is known of the cells -/
theorem R.less (r : R B K F s H G M) (h : ∀ a o, M' a = some o → M a = some o) : R B K F s H G M' := ⟨r.slots, r.ex, fun a o q => r.mem a o (h a o q), r.bf, r.bk.trans (Kp.less h)⟩
/-- a list cell is frozen -/
theorem R.freeze {p : Addr} {ds : List D} (r : R B K F s H G M) (h : M p = some (.lst ds)) : ∃ F', Same F F' ∧ R B K F' s H G (mdel M p) ∧ Rp K F' (.ref p) (.lst ds) := by
  obtain ⟨fp, xs, hx, rx⟩ := r.mem p _ h
  have e : Same F (upd F p (.lst xs)) := Same.upd_new fp
  refine ⟨upd F p (.lst xs), e, ?_, .lst upd_same (rx.mono e)⟩
  have r2 : R B K F s H G (mdel M p) := r.less fun a o q => by
    unfold mdel at q
    split at q
    · cases q
    · exact q
  refine R.grow e (fun b u q => ?_) (fun a u q => ?_) r2
  · by_cases hb : b = p
    · subst hb; rw [upd_same] at q; cases q; exact hx
    · rw [upd_ne hb] at q; exact r.ex b u q
  · unfold mdel at q
    split at q
    · cases q
    · rename_i hb
      rw [upd_ne hb]; exact (r.mem a u q).1
end
end FL

namespace FL
open PySem PySem.Spec PyProof.Rows L2

abbrev Sl := List (Option D)
/-! ### the weakest readings -/
section
variable {B : Bs} {X : Cx} {e : Expr}
def WE (X : Cx) (e : Expr) : TE := fun σ H Q => ∀ (pins : List (Addr × Obj)) (s : Shared), Inv X pins σ H s → wpAny (model X.prog X.w) X.A (eval e X.env) (EP X pins σ Q) X.xe s
theorem pe_we : PE X e (WE X e) := ⟨fun pins s _ _ _ I h => h pins s I⟩
theorem WE.of {t : TE} {σ : L2.St} {H : Hp} {Q : VK} (h : PE X e t) (q : t σ H Q) : WE X e σ H Q := fun pins s I => h.run pins s σ H Q I q
def WT (X : Cx) (e : Expr) : TT := fun σ H Q => ∀ (pins : List (Addr × Obj)) (s : Shared), Inv X pins σ H s → wpAny (model X.prog X.w) X.A (isTrue e X.env (eval e X.env)) (TP X pins σ Q) X.xe s
theorem pt_wt : PT X e (WT X e) := ⟨fun pins s _ _ _ I h => h pins s I⟩
theorem WT.of {t : TT} {σ : L2.St} {H : Hp} {Q : Bool → Hp → Prop} (h : PT X e t) (q : t σ H Q) : WT X e σ H Q := fun pins s I => h.run pins s σ H Q I q
def WW (X : Cx) (e : Expr) : TT := fun σ H Q => ∀ (whole : Sem Value) (pins : List (Addr × Obj)) (s : Shared), Inv X pins σ H s → wpAny (model X.prog X.w) X.A (isTrue e X.env whole) (TP X pins σ Q) X.xe s
theorem pw_ww : PW X e (WW X e) := ⟨fun wh pins s _ _ _ I h => h wh pins s I⟩
theorem WW.of {t : TT} {σ : L2.St} {H : Hp} {Q : Bool → Hp → Prop} (h : PW X e t) (q : t σ H Q) : WW X e σ H Q := fun wh pins s I => h.run wh pins s σ H Q I q
def WA (X : Cx) (es : List Expr) : TA := fun σ H Q => ∀ (pos : Pos) (pins : List (Addr × Obj)) (s : Shared), Inv X pins σ H s → wpAny (model X.prog X.w) X.A (spliced (backTo pos (starEach es X.env))) (AP X pins σ Q) X.xe s
theorem pa_wa {es : List Expr} : PA X es (WA X es) := ⟨fun pos pins s _ _ _ I h => h pos pins s I⟩
theorem WA.of {es : List Expr} {t : TA} {σ : L2.St} {H : Hp} {Q : List V → Hp → Prop} (h : PA X es t) (q : t σ H Q) : WA X es σ H Q := fun pos pins s I => h.run pos pins s σ H Q I q
def WO (X : Cx) (f : Value → Value → Sem Value) : R2 := fun x y H Q => ∀ (pins : List (Addr × Obj)) (s : Shared) (σ : L2.St) (v u : Value), Inv X pins σ H s → RelV x v → RelV y u → wpAny (model X.prog X.w) X.A (f v u) (EP X pins σ Q) X.xe s
theorem op_wo {f : Value → Value → Sem Value} : OpR X f (WO X f) := fun pins s σ _ _ _ v u _ I r1 r2 h => h pins s σ v u I r1 r2
theorem WO.of {f : Value → Value → Sem Value} {r : R2} {x y : V} {H : Hp} {Q : VK} (h : OpR X f r) (q : r x y H Q) : WO X f x y H Q := fun pins s σ v u I r1 r2 => h pins s σ H x y v u Q I r1 r2 q
def WU (X : Cx) (f : Value → Sem Value) : V → Hp → VK → Prop := fun x H Q => ∀ (pins : List (Addr × Obj)) (s : Shared) (σ : L2.St) (v : Value), Inv X pins σ H s → RelV x v → wpAny (model X.prog X.w) X.A (f v) (EP X pins σ Q) X.xe s
theorem un_wu {f : Value → Sem Value} : UnR X f (WU X f) := fun pins s σ _ _ v _ I r1 h => h pins s σ v I r1
theorem WU.of {f : Value → Sem Value} {r : V → Hp → VK → Prop} {x : V} {H : Hp} {Q : VK} (h : UnR X f r) (q : r x H Q) : WU X f x H Q := fun pins s σ v I r1 => h pins s σ H x v Q I r1 q
def WC (X : Cx) (f : Value) : List V → Hp → VK → Prop := fun xs H Q => ∀ (pins : List (Addr × Obj)) (s : Shared) (σ : L2.St) (us : List Value), Inv X pins σ H s → Vals xs us → wpAny (model X.prog X.w) X.A (call f us) (EP X pins σ Q) X.xe s
theorem call_wc {f : Value} : CallR X f (WC X f) := fun pins s σ _ _ us _ I r h => h pins s σ us I r
theorem WC.of {f : Value} {r : List V → Hp → VK → Prop} {xs : List V} {H : Hp} {Q : VK} (h : CallR X f r) (q : r xs H Q) : WC X f xs H Q := fun pins s σ us I rr => h pins s σ H xs us Q I rr q
def WI (X : Cx) : R2 := fun x y H Q => ∀ (value slice : Expr) (pins : List (Addr × Obj)) (s : Shared) (σ : L2.St) (v u : Value), Inv X pins σ H s → RelV x v → RelV y u →
  subscripted slice false v u = operate [v, u] (getItem v u) → wpAny (model X.prog X.w) X.A (subscriptTail value slice v u) (EP X pins σ Q) X.xe s
theorem ix_wi : IxR X (WI X) := fun a b pins s σ _ _ _ v u _ I r1 r2 h hs => h a b pins s σ v u I r1 r2 hs
theorem WI.of {r : R2} {x y : V} {H : Hp} {Q : VK} (h : IxR X r) (q : r x y H Q) : WI X x y H Q := fun a b pins s σ v u I r1 r2 hs => h a b pins s σ H x y v u Q I r1 r2 q hs
def WM (X : Cx) (id : String) : V → List V → Hp → VK → Prop := fun x xs H Q => ∀ (pins : List (Addr × Obj)) (s : Shared) (σ : L2.St) (v : Value) (us : List Value), Inv X pins σ H s → RelV x v → Vals xs us →
  wpAny (model X.prog X.w) X.A (call (.builtin id) (v :: us)) (EP X pins σ Q) X.xe s
theorem mt_wm {id : String} : MtR X id (WM X id) := fun pins s σ _ _ _ v us _ I r1 r2 h => h pins s σ v us I r1 r2
theorem WM.of {id : String} {r : V → List V → Hp → VK → Prop} {x : V} {xs : List V} {H : Hp} {Q : VK} (h : MtR X id r) (q : r x xs H Q) : WM X id x xs H Q := fun pins s σ v us I r1 r2 => h pins s σ H x xs v us Q I r1 r2 q
def WS (X : Cx) (st : Stmt) : TS := fun D σ H => ∀ (pins : List (Addr × Obj)) (s : Shared), Inv X pins σ H s → wpAny (model X.prog X.w) X.A (exec st X.env) (SP X pins D) X.xe s
theorem ps_ws {st : Stmt} : PS X st (WS X st) := ⟨fun pins s _ _ _ I h => h pins s I⟩
theorem WS.of {st : Stmt} {t : TS} {σ : L2.St} {H : Hp} {E : Ends} (h : PS X st t) (q : t E σ H) : WS X st E σ H := fun pins s I => h.run pins s σ H E I q
def WSs (X : Cx) (st : List Stmt) : TS := fun D σ H => ∀ (pins : List (Addr × Obj)) (s : Shared), Inv X pins σ H s → wpAny (model X.prog X.w) X.A (execs st X.env) (SP X pins D) X.xe s
theorem pss_wss {st : List Stmt} : PSs X st (WSs X st) := ⟨fun pins s _ _ _ I h => h pins s I⟩
theorem WSs.of {st : List Stmt} {t : TS} {σ : L2.St} {H : Hp} {E : Ends} (h : PSs X st t) (q : t E σ H) : WSs X st E σ H := fun pins s I => h.run pins s σ H E I q
def WG (X : Cx) (tg : Expr) : TG := fun v σ H Q => ∀ (pins : List (Addr × Obj)) (s : Shared) (u : Value), Inv X pins σ H s → RelV v u →
  wpAny (model X.prog X.w) X.A (assign tg X.env u) (fun _ s' => ∃ σ' H', Inv X pins σ' H' s' ∧ Q σ' H') X.xe s
theorem pg_wg {tg : Expr} : PG X tg (WG X tg) := ⟨fun pins s _ _ _ u _ I r h => h pins s u I r⟩
theorem WG.of {tg : Expr} {t : TG} {v : V} {σ : L2.St} {H : Hp} {Q : L2.St → Hp → Prop} (h : PG X tg t) (q : t v σ H Q) : WG X tg v σ H Q := fun pins s u I r => h.run pins s σ H v u Q I r q
end

/-! ### what is handed on -/
def KE (B : Bs) (X : Cx) (F : Hp) (σ : L2.St) (G : Sl) (Q : D → Mem → Prop) (Q' : VK) : Prop := ∀ v H' F' d M', Q d M' → Same F F' → R B X.K F' σ H' G M' → Rp X.K F' v d → Q' v H'
def KT (B : Bs) (X : Cx) (F : Hp) (σ : L2.St) (G : Sl) (Q : Bool → Mem → Prop) (Q' : Bool → Hp → Prop) : Prop := ∀ b H' F' M', Q b M' → Same F F' → R B X.K F' σ H' G M' → Q' b H'
def KA (B : Bs) (X : Cx) (F : Hp) (σ : L2.St) (G : Sl) (Q : List D → Mem → Prop) (Q' : List V → Hp → Prop) : Prop := ∀ vs H' F' ds M', Q ds M' → Same F F' → R B X.K F' σ H' G M' → RpAll X.K F' vs ds → Q' vs H'
def EX (B : Bs) (X : Cx) (e : Expr) (G : Sl) (M : Mem) (Q : D → Mem → Prop) : Prop := ∀ F σ H Q', R B X.K F σ H G M → KE B X F σ G Q Q' → WE X e σ H Q'
def TX (B : Bs) (X : Cx) (e : Expr) (G : Sl) (M : Mem) (Q : Bool → Mem → Prop) : Prop := ∀ F σ H Q', R B X.K F σ H G M → KT B X F σ G Q Q' → WT X e σ H Q'
def TW (B : Bs) (X : Cx) (e : Expr) (G : Sl) (M : Mem) (Q : Bool → Mem → Prop) : Prop := ∀ F σ H Q', R B X.K F σ H G M → KT B X F σ G Q Q' → WW X e σ H Q'
def AX (B : Bs) (X : Cx) (es : List Expr) (G : Sl) (M : Mem) (Q : List D → Mem → Prop) : Prop := ∀ F σ H Q', R B X.K F σ H G M → KA B X F σ G Q Q' → WA X es σ H Q'
def OX (B : Bs) (X : Cx) (f : Value → Value → Sem Value) (x y : D) (G : Sl) (M : Mem) (Q : D → Mem → Prop) : Prop := ∀ F σ H Q' v w, R B X.K F σ H G M → Rp X.K F v x → Rp X.K F w y → KE B X F σ G Q Q' → WO X f v w H Q'
def UX (B : Bs) (X : Cx) (f : Value → Sem Value) (x : D) (G : Sl) (M : Mem) (Q : D → Mem → Prop) : Prop := ∀ F σ H Q' v, R B X.K F σ H G M → Rp X.K F v x → KE B X F σ G Q Q' → WU X f v H Q'
def IX (B : Bs) (X : Cx) (x y : D) (G : Sl) (M : Mem) (Q : D → Mem → Prop) : Prop := ∀ F σ H Q' v w, R B X.K F σ H G M → Rp X.K F v x → Rp X.K F w y → KE B X F σ G Q Q' → WI X v w H Q'
def BX (B : Bs) (X : Cx) (f : Value) (xs : List D) (G : Sl) (M : Mem) (Q : D → Mem → Prop) : Prop := ∀ F σ H Q' vs, R B X.K F σ H G M → RpAll X.K F vs xs → KE B X F σ G Q Q' → WC X f vs H Q'
def MX (B : Bs) (X : Cx) (id : String) (x : D) (xs : List D) (G : Sl) (M : Mem) (Q : D → Mem → Prop) : Prop := ∀ F σ H Q' v vs, R B X.K F σ H G M → Rp X.K F v x → RpAll X.K F vs xs → KE B X F σ G Q Q' → WM X id v vs H Q'

section
variable {B : Bs} {X : Cx} {a b c e : Expr} {es : List Expr} {G : Sl} {M : Mem} {Q Q2 : D → Mem → Prop} {pos p pos' : Pos} {d : D} {F F1 : Hp} {σ : L2.St}
theorem KE.mono {Q' : VK} (e : Same F F1) (k : KE B X F σ G Q Q') : KE B X F1 σ G Q Q' := fun v H' F' d M' q s r rp => k v H' F' d M' q (e.trans s) r rp
theorem KT.mono {Q : Bool → Mem → Prop} {Q' : Bool → Hp → Prop} (e : Same F F1) (k : KT B X F σ G Q Q') : KT B X F1 σ G Q Q' := fun b H' F' M' q s r => k b H' F' M' q (e.trans s) r
theorem KA.mono {Q : List D → Mem → Prop} {Q' : List V → Hp → Prop} (e : Same F F1) (k : KA B X F σ G Q Q') : KA B X F1 σ G Q Q' := fun vs H' F' ds M' q s r rp => k vs H' F' ds M' q (e.trans s) r rp
theorem EX.imp (h : EX B X e G M Q) (k : ∀ d M', Q d M' → Q2 d M') : EX B X e G M Q2 := fun F σ H Q' r kk => h F σ H Q' r fun v H' F' d M' q => kk v H' F' d M' (k d M' q)
theorem TX.imp {Q Q2 : Bool → Mem → Prop} (h : TX B X e G M Q) (k : ∀ b M', Q b M' → Q2 b M') : TX B X e G M Q2 := fun F σ H Q' r kk => h F σ H Q' r fun b H' F' M' q => kk b H' F' M' (k b M' q)
/-- done at once, the state as it is -/
theorem KE.at {Q' : VK} {H : Hp} {v : V} (k : KE B X F σ G Q Q') (r : R B X.K F σ H G M) (q : Q d M) (rp : Rp X.K F v d) : Q' v H := k v H F d M q (Same.refl F) r rp
/-- .. with a new frozen thing -/
theorem KE.new {Q' : VK} {H : Hp} {p : Addr} {o : HO} (k : KE B X F σ G Q Q') (r : R B X.K F σ H G M) (hp : H p = none) (q : Q d M) (rp : Rp X.K (upd F p o) (.ref p) d) : Q' (.ref p) (upd H p o) :=
  k (.ref p) _ (upd F p o) d M q (r.new hp).1 (r.new hp).2 rp
theorem KE.cell {Q' : VK} {H : Hp} {p : Addr} {ho : HO} {o : MO} (k : KE B X F σ G Q Q') (r : R B X.K F σ H G M) (hp : H p = none) (q : Q (.ref p) (mupd M p o)) (m : MRp X.K F (upd H p ho) p o) : Q' (.ref p) (upd H p ho) :=
  k (.ref p) _ F (.ref p) _ q (Same.refl F) (r.newCell hp m) (.ref p)

/-! ### names, constants -/
/-- the i-th slot's name -/
structure At (X : Cx) (i : Nat) (x : Str) : Prop where
  n : X.N[i]? = some x
  v : Vis X.env.scope x
  d : (x == ("__debug__" : Str)) = false
  c : (x == ("__classdict__" : Str)) = false
theorem ex_var {i : Nat} {x : Str} (h : At X i x) (g : G[i]? = some (some d)) (q : Q d M) : EX B X (.Name x pos) G M Q := fun F σ H Q' r k => by
  obtain ⟨v, hv, rp⟩ := r.slots.2 i d g
  exact WE.of (pe_var h.n h.v h.d h.c) ⟨v, hv, k.at r q rp⟩
theorem ex_int {i : Int} {j} (q : Q (.int i) M) : EX B X (.Constant (.int i) j pos) G M Q := fun F σ H Q' r k => WE.of pe_int (k.at r q (.int i))
theorem ex_bl {b : Bool} {j} (q : Q (.bl b) M) : EX B X (.Constant (.bool b) j pos) G M Q := fun F σ H Q' r k => WE.of pe_bl (k.at r q (.bl b))
theorem ex_non {j} (q : Q .non M) : EX B X (.Constant .none j pos) G M Q := fun F σ H Q' r k => WE.of pe_non (k.at r q .non)
theorem ex_str {x : Str} {j} (q : Q (.str x) M) : EX B X (.Constant (.str x) j pos) G M Q := fun F σ H Q' r k => WE.of pe_str (k.at r q (.str x))
/-- a name of the module -/
structure Gb (X : Cx) (x : Str) (d : D) : Prop where
  g : Gl X x
  m : ∃ u v, X.mg x = some u ∧ RelV v u ∧ ∀ F, Rp X.K F v d
  d : (x == ("__debug__" : Str)) = false
theorem ex_glob {x : Str} (h : Gb X x d) (q : Q d M) : EX B X (.Name x pos) G M Q := fun F σ H Q' r k => by
  obtain ⟨u, v, hm, rv, rp⟩ := h.m
  exact WE.of (pe_glob h.g hm rv h.d) (k.at r q (rp F))

/-! ### operators -/
theorem ex_bin {op : Operator} (h : EX B X a G M fun x M1 => EX B X b G M1 fun y M2 => OX B X (binaryOp op) x y G M2 Q) : EX B X (.BinOp a op b pos) G M Q := fun F σ H Q' r k =>
  WE.of (pe_op op_wo pe_we pe_we) (h F σ H _ r fun v1 H1 F1 d1 M1 q1 s1 r1 p1 => q1 F1 σ H1 _ r1 fun v2 H2 F2 d2 M2 q2 s2 r2 p2 => q2 F2 σ H2 Q' v1 v2 r2 (p1.mono s2) p2 (k.mono (s1.trans s2)))
theorem ex_un {op : UnaryOp} (h : EX B X a G M fun x M1 => UX B X (unaryOp op) x G M1 Q) : EX B X (.UnaryOp op a pos) G M Q := fun F σ H Q' r k =>
  WE.of (pe_un un_wu pe_we) (h F σ H _ r fun v1 H1 F1 d1 M1 q1 s1 r1 p1 => q1 F1 σ H1 Q' v1 r1 p1 (k.mono s1))
theorem ex_cmp {op : CmpOp} (hm : behindInMarks op b = false) (h : EX B X a G M fun x M1 => EX B X b G M1 fun y M2 => OX B X (compareOp op) x y G M2 Q) : EX B X (.Compare a [op] [b] pos) G M Q := fun F σ H Q' r k =>
  WE.of (pe_cmpR op_wo pe_we pe_we hm) (h F σ H _ r fun v1 H1 F1 d1 M1 q1 s1 r1 p1 => q1 F1 σ H1 _ r1 fun v2 H2 F2 d2 M2 q2 s2 r2 p2 => q2 F2 σ H2 Q' v1 v2 r2 (p1.mono s2) p2 (k.mono (s1.trans s2)))
/-- what a value must be to be a test's answer -/
def AsB (Q : Bool → Mem → Prop) : D → Mem → Prop
  | .bl b, M => Q b M
  | _, _ => False
theorem KT.asB {Q : Bool → Mem → Prop} {Q' : Bool → Hp → Prop} (k : KT B X F σ G Q Q') : KE B X F σ G (AsB Q) (fun x H' => ∃ b, x = .bl b ∧ Q' b H') := fun v H' F' d M' q s r rp => by
  cases d with
  | bl b => cases rp; exact ⟨b, rfl, k b H' F' M' q s r⟩
  | _ => exact False.elim q
theorem tx_cmp {Q : Bool → Mem → Prop} {op : CmpOp} (hm : behindInMarks op b = false) (h : EX B X a G M fun x M1 => EX B X b G M1 fun y M2 => OX B X (compareOp op) x y G M2 (AsB Q)) : TX B X (.Compare a [op] [b] pos) G M Q := fun F σ H Q' r k =>
  WT.of (pt_cmpR op_wo pe_we pe_we hm) (h F σ H _ r fun v1 H1 F1 d1 M1 q1 s1 r1 p1 => q1 F1 σ H1 _ r1 fun v2 H2 F2 d2 M2 q2 s2 r2 p2 => q2 F2 σ H2 _ v1 v2 r2 (p1.mono s2) p2 (k.mono (s1.trans s2)).asB)
theorem tx_val {Q : Bool → Mem → Prop} (he : ∀ whole, isTrue e X.env whole = (do let v ← whole; standAt e.pos; holding [v] (truthy v))) (h : EX B X e G M (AsB Q)) : TX B X e G M Q := fun F σ H Q' r k =>
  WT.of (pt_val pe_we he) (h F σ H _ r k.asB)
theorem chain_k {Q' : VK} {op op' : CmpOp} {c : Expr} {H : Hp} {v1 v2 : V} {d1 d2 : D} (k : KE B X F σ G Q Q') (r : R B X.K F σ H G M) (p1 : Rp X.K F v1 d1) (p2 : Rp X.K F v2 d2)
    (q : OX B X (compareOp op) d1 d2 G M (AsB fun b M3 => if b = true then EX B X c G M3 fun w M4 => OX B X (compareOp op') d2 w G M4 Q else Q (.bl false) M3)) :
    WO X (compareOp op) v1 v2 H (fun z H3 => ∃ k, z = .bl k ∧ (if k = true then WE X c σ H3 (fun w' H4 => WO X (compareOp op') v2 w' H4 Q') else Q' (.bl false) H3)) := by
  refine q F σ H _ v1 v2 r p1 p2 fun z H3 F3 d3 M3 q3 s3 r3 p3 => ?_
  cases d3 with
  | bl b =>
    cases p3
    refine ⟨b, rfl, ?_⟩
    cases b with
    | true =>
      rw [if_pos rfl]
      have q3' : EX B X c G M3 fun w M4 => OX B X (compareOp op') d2 w G M4 Q := q3
      exact q3' F3 σ H3 _ r3 fun v4 H4 F4 d4 M4 q4 s4 r4 p4 => q4 F4 σ H4 Q' v2 v4 r4 (p2.mono (s3.trans s4)) p4 (k.mono (s3.trans s4))
    | false =>
      rw [if_neg Bool.false_ne_true]
      have q3' : Q (.bl false) M3 := q3
      exact (k.mono s3).at r3 q3' (.bl false)
  | _ => exact False.elim q3
theorem ex_chain {op op' : CmpOp} (hm : lastMarks [op, op'] [b, c] = false)
    (h : EX B X a G M fun x M1 => EX B X b G M1 fun y M2 => OX B X (compareOp op) x y G M2 (AsB fun t M3 => if t = true then EX B X c G M3 fun w M4 => OX B X (compareOp op') y w G M4 Q else Q (.bl false) M3)) :
    EX B X (.Compare a [op, op'] [b, c] pos) G M Q := fun F σ H Q' r k =>
  WE.of (pe_chain op_wo op_wo pe_we pe_we pe_we hm) (h F σ H _ r fun v1 H1 F1 d1 M1 q1 s1 r1 p1 => q1 F1 σ H1 _ r1 fun v2 H2 F2 d2 M2 q2 s2 r2 p2 => chain_k (k.mono (s1.trans s2)) r2 (p1.mono s2) p2 q2)
theorem tx_chain {Q : Bool → Mem → Prop} {op op' : CmpOp} (hm : lastMarks [op, op'] [b, c] = false)
    (h : EX B X a G M fun x M1 => EX B X b G M1 fun y M2 => OX B X (compareOp op) x y G M2 (AsB fun t M3 => if t = true then EX B X c G M3 fun w M4 => OX B X (compareOp op') y w G M4 (AsB Q) else Q false M3)) :
    TX B X (.Compare a [op, op'] [b, c] pos) G M Q := fun F σ H Q' r k =>
  WT.of (pt_chain op_wo op_wo pe_we pe_we pe_we hm) (h F σ H _ r fun v1 H1 F1 d1 M1 q1 s1 r1 p1 => q1 F1 σ H1 _ r1 fun v2 H2 F2 d2 M2 q2 s2 r2 p2 => chain_k (k.mono (s1.trans s2)).asB r2 (p1.mono s2) p2 q2)

/-! ### and, or, not -/
theorem ite_mono {c A B A' B' : Prop} [Decidable c] (h : if c then A else B) (h1 : A → A') (h2 : B → B') : if c then A' else B' := by
  by_cases e : c
  · rw [if_pos e] at h ⊢; exact h1 h
  · rw [if_neg e] at h ⊢; exact h2 h
theorem TW.tx {Q : Bool → Mem → Prop} (h : TW B X e G M Q) : TX B X e G M Q := fun F σ H Q' r k => WT.of pw_ww.pt (h F σ H Q' r k)
theorem tw_and1 {Q : Bool → Mem → Prop} (h : TX B X a G M Q) : TW B X (.BoolOp .And [a] pos) G M Q := fun F σ H Q' r k => WW.of (pw_and1 pt_wt) (h F σ H Q' r k)
theorem tw_or1 {Q : Bool → Mem → Prop} (h : TX B X a G M Q) : TW B X (.BoolOp .Or [a] pos) G M Q := fun F σ H Q' r k => WW.of (pw_or1 pt_wt) (h F σ H Q' r k)
theorem tw_and {Q : Bool → Mem → Prop} {rest : List Expr} (h : TX B X a G M fun c M1 => if c = true then TW B X (.BoolOp .And (b :: rest) pos) G M1 Q else Q false M1) : TW B X (.BoolOp .And (a :: b :: rest) pos) G M Q := fun F σ H Q' r k =>
  WW.of (pw_and pt_wt pw_ww) (h F σ H _ r fun c H1 F1 M1 q1 s1 r1 => ite_mono q1 (fun q => q F1 σ H1 Q' r1 (k.mono s1)) fun q => k false H1 F1 M1 q s1 r1)
theorem tw_or {Q : Bool → Mem → Prop} {rest : List Expr} (h : TX B X a G M fun c M1 => if c = true then Q true M1 else TW B X (.BoolOp .Or (b :: rest) pos) G M1 Q) : TW B X (.BoolOp .Or (a :: b :: rest) pos) G M Q := fun F σ H Q' r k =>
  WW.of (pw_or pt_wt pw_ww) (h F σ H _ r fun c H1 F1 M1 q1 s1 r1 => ite_mono q1 (fun q => k true H1 F1 M1 q s1 r1) fun q => q F1 σ H1 Q' r1 (k.mono s1))
theorem tx_not {Q : Bool → Mem → Prop} (h : TX B X a G M fun c M1 => Q (!c) M1) : TX B X (.UnaryOp .Not a pos) G M Q := fun F σ H Q' r k =>
  WT.of (pt_not pt_wt) (h F σ H _ r fun c H1 F1 M1 q1 s1 r1 => k (!c) H1 F1 M1 q1 s1 r1)
theorem asB_k {Q : Bool → Mem → Prop} {Q' : VK} (k : ∀ b H' F' M', Q b M' → Same F F' → R B X.K F' σ H' G M' → Q' (.bl b) H') : KE B X F σ G (AsB Q) Q' := fun v H' F' d M' q s r rp => by
  cases d with
  | bl b => cases rp; exact k b H' F' M' q s r
  | _ => exact False.elim q
theorem ex_one {op} (h : EX B X a G M Q) : EX B X (.BoolOp op [a] pos) G M Q := fun F σ H Q' r k => WE.of (pe_one pe_we) (h F σ H Q' r k)
theorem ex_and {rest : List Expr} (h : EX B X a G M (AsB fun c M1 => if c = true then EX B X (.BoolOp .And (b :: rest) pos) G M1 Q else Q (.bl false) M1)) : EX B X (.BoolOp .And (a :: b :: rest) pos) G M Q := fun F σ H Q' r k =>
  WE.of (pe_and pe_we pe_we) (h F σ H _ r (asB_k fun c H1 F1 M1 q1 s1 r1 => ⟨c, rfl, ite_mono q1 (fun q => q F1 σ H1 Q' r1 (k.mono s1)) fun q => (k.mono s1).at r1 q (.bl false)⟩))
theorem ex_or {rest : List Expr} (h : EX B X a G M (AsB fun c M1 => if c = true then Q (.bl true) M1 else EX B X (.BoolOp .Or (b :: rest) pos) G M1 Q)) : EX B X (.BoolOp .Or (a :: b :: rest) pos) G M Q := fun F σ H Q' r k =>
  WE.of (pe_or pe_we pe_we) (h F σ H _ r (asB_k fun c H1 F1 M1 q1 s1 r1 => ⟨c, rfl, ite_mono q1 (fun q => (k.mono s1).at r1 q (.bl true)) fun q => q F1 σ H1 Q' r1 (k.mono s1)⟩))
theorem ex_not (h : EX B X a G M (AsB fun c M1 => Q (.bl (!c)) M1)) : EX B X (.UnaryOp .Not a pos) G M Q := fun F σ H Q' r k =>
  WE.of (pe_not pe_we) (h F σ H _ r (asB_k fun c H1 F1 M1 q1 s1 r1 => ⟨c, rfl, (k.mono s1).at r1 q1 (.bl (!c))⟩))
theorem ex_if (h : TX B X c G M fun t M1 => if t = true then EX B X a G M1 Q else EX B X b G M1 Q) : EX B X (.IfExp c a b pos) G M Q := fun F σ H Q' r k =>
  WE.of (pe_ifExp pt_wt pe_we pe_we) (h F σ H _ r fun t H1 F1 M1 q1 s1 r1 => ite_mono q1 (fun q => q F1 σ H1 Q' r1 (k.mono s1)) fun q => q F1 σ H1 Q' r1 (k.mono s1))

/-! ### arguments, tuples, lists, subscripts -/
theorem ax_nil {Q : List D → Mem → Prop} (q : Q [] M) : AX B X [] G M Q := fun F σ H Q' r k => WA.of pa_nil (k [] H F [] M q (Same.refl F) r .nil)
theorem ax_cons {Q : List D → Mem → Prop} (hs : starEach (e :: es) X.env = (false, eval e X.env) :: starEach es X.env) (h : EX B X e G M fun x M1 => AX B X es G M1 fun xs M2 => Q (x :: xs) M2) : AX B X (e :: es) G M Q := fun F σ H Q' r k =>
  WA.of (pa_cons pe_we pa_wa hs) (h F σ H _ r fun v1 H1 F1 d1 M1 q1 s1 r1 p1 => q1 F1 σ H1 _ r1 fun vs H2 F2 ds M2 q2 s2 r2 p2 => k _ H2 F2 _ M2 q2 (s1.trans s2) r2 (.cons (p1.mono s2) p2))
theorem sq_upd {K : PySem.W.Frag} {F : Hp} {p : Addr} {xs : List V} : SqT K (upd F p (.tup xs)) p xs := .inl (.inl upd_same)
theorem sl_upd {K : PySem.W.Frag} {F : Hp} {p : Addr} {xs : List V} : SqL K (upd F p (.lst xs)) p xs := .inl (.inl upd_same)
theorem ex_tup {x1} (h : AX B X es G M fun xs M1 => xs.length ≤ sizeLine ∧ Q (.tup xs) M1) : EX B X (.Tuple es x1 pos) G M Q := fun F σ H Q' r k =>
  WE.of (pe_tup pa_wa) (h F σ H _ r fun vs H1 F1 ds M1 q1 s1 r1 p1 => ⟨by rw [p1.length]; exact q1.1, fun p hp => (k.mono s1).new r1 hp q1.2 (.tup sq_upd (p1.mono (r1.new hp).1))⟩)
theorem ex_lst (h : AX B X es G M fun xs M1 => xs.length ≤ sizeLine ∧ Q (.lst xs) M1) : EX B X (.List es pos) G M Q := fun F σ H Q' r k =>
  WE.of (pe_lst pa_wa) (h F σ H _ r fun vs H1 F1 ds M1 q1 s1 r1 p1 => ⟨by rw [p1.length]; exact q1.1, fun p hp => (k.mono s1).new r1 hp q1.2 (.lst upd_same (p1.mono (r1.new hp).1))⟩)
/-- a list that will be changed: a cell -/
theorem ex_lstM (h : AX B X es G M fun xs M1 => xs.length ≤ sizeLine ∧ ∀ p, M1 p = none → Q (.ref p) (mupd M1 p (.lst xs))) : EX B X (.List es pos) G M Q := fun F σ H Q' r k =>
  WE.of (pe_lst pa_wa) (h F σ H _ r fun vs H1 F1 ds M1 q1 s1 r1 p1 => ⟨by rw [p1.length]; exact q1.1, fun p hp => (k.mono s1).cell r1 hp (q1.2 p (r1.freeM hp)) ⟨vs, upd_same, p1⟩⟩)
theorem ex_sub (hs : PlainIx b) (h : EX B X a G M fun x M1 => EX B X b G M1 fun y M2 => IX B X x y G M2 Q) : EX B X (.Subscript a b pos) G M Q := fun F σ H Q' r k =>
  WE.of (pe_ix ix_wi pe_we pe_we hs) (h F σ H _ r fun v1 H1 F1 d1 M1 q1 s1 r1 p1 => q1 F1 σ H1 _ r1 fun v2 H2 F2 d2 M2 q2 s2 r2 p2 => q2 F2 σ H2 Q' v1 v2 r2 (p1.mono s2) p2 (k.mono (s1.trans s2)))
end

/-! ### by values -/
section
variable {B : Bs} {X : Cx} {G : Sl} {M : Mem} {Q : D → Mem → Prop} {i j : Int} {x y : Str}
theorem atI_rp {K : PySem.W.Frag} {F : Hp} {vs : List V} {ds : List D} {i : Int} {d : D} (r : RpAll K F vs ds) (h : atI ds i = some d) : ∃ v, atI vs i = some v ∧ Rp K F v d := by
  unfold atI at h ⊢
  rw [r.length]
  cases e : ixN ds.length i with
  | none => rw [e] at h; cases h
  | some k =>
    rw [e] at h
    exact r.get (i := k) h
theorem ix_t {ds : List D} {d : D} (h : atI ds i = some d) (q : Q d M) : IX B X (.tup ds) (.int i) G M Q := fun F σ H Q' v w r p1 p2 k => by
  cases p2
  cases p1 with
  | @tup a xs _ hs rs =>
    obtain ⟨u, hu, ru⟩ := atI_rp rs h
    exact WI.of ix_tup ⟨a, xs, i, u, rfl, rfl, sq_same r.ex hs, hu, k.at r q ru⟩
theorem ix_l {ds : List D} {d : D} (h : atI ds i = some d) (q : Q d M) : IX B X (.lst ds) (.int i) G M Q := fun F σ H Q' v w r p1 p2 k => by
  cases p2
  cases p1 with
  | @lst a xs _ hs rs =>
    obtain ⟨u, hu, ru⟩ := atI_rp rs h
    exact WI.of ix_list ⟨a, xs, i, u, rfl, rfl, SqL.of (r.ex _ _ hs), hu, k.at r q ru⟩
theorem ix_f {ds : List D} {d : D} (h : atI ds i = some d) (q : Q d M) : IX B X (.fzl ds) (.int i) G M Q := fun F σ H Q' v w r p1 p2 k => by
  cases p2
  cases p1 with
  | @fzl a xs _ hs rs =>
    obtain ⟨u, hu, ru⟩ := atI_rp rs h
    exact WI.of ix_list ⟨a, xs, i, u, rfl, rfl, r.ex.seq hs, hu, k.at r q ru⟩
/-- a cell's item -/
theorem ix_c {a : Addr} {ds : List D} {d : D} (hm : M a = some (.lst ds)) (h : atI ds i = some d) (q : Q d M) : IX B X (.ref a) (.int i) G M Q := fun F σ H Q' v w r p1 p2 k => by
  cases p2; cases p1
  obtain ⟨_, xs, hx, rs⟩ := r.mem a _ hm
  obtain ⟨u, hu, ru⟩ := atI_rp rs h
  exact WI.of ix_list ⟨a, xs, i, u, rfl, rfl, .inl (.inl hx), hu, k.at r q ru⟩
theorem ix_s {c : Nat} (hl : x.length ≤ sizeLine) (h : atI x.cps.toList i = some c) (q : Q (.str ⟨#[c]⟩) M) : IX B X (.str x) (.int i) G M Q := fun F σ H Q' v w r p1 p2 k => by
  cases p2; cases p1
  exact WI.of ix_str ⟨x, i, c, rfl, rfl, hl, h, k.at r q (.str _)⟩
theorem ox_add (q : Q (.int (i + j)) M) : OX B X (binaryOp .Add) (.int i) (.int j) G M Q := fun F σ H Q' v w r p1 p2 k => by
  cases p1; cases p2; exact WO.of op_add ⟨i, j, rfl, rfl, k.at r q (.int _)⟩
theorem ox_sub (q : Q (.int (i - j)) M) : OX B X (binaryOp .Sub) (.int i) (.int j) G M Q := fun F σ H Q' v w r p1 p2 k => by
  cases p1; cases p2; exact WO.of op_sub ⟨i, j, rfl, rfl, k.at r q (.int _)⟩
theorem ox_mul (h : CMul i j) (q : Q (.int (i * j)) M) : OX B X (binaryOp .Mult) (.int i) (.int j) G M Q := fun F σ H Q' v w r p1 p2 k => by
  cases p1; cases p2; exact WO.of op_mul ⟨i, j, rfl, rfl, h, k.at r q (.int _)⟩
theorem ox_fdiv (h : CDiv i j) (q : Q (.int (i / j)) M) : OX B X (binaryOp .FloorDiv) (.int i) (.int j) G M Q := fun F σ H Q' v w r p1 p2 k => by
  cases p1; cases p2; exact WO.of op_fdiv ⟨i, j, rfl, rfl, h, k.at r q (.int _)⟩
theorem ox_mod (h : 0 < j) (q : Q (.int (i % j)) M) : OX B X (binaryOp .Mod) (.int i) (.int j) G M Q := fun F σ H Q' v w r p1 p2 k => by
  cases p1; cases p2; exact WO.of op_mod ⟨i, j, rfl, rfl, h, k.at r q (.int _)⟩
theorem ox_addS (h : x.length + y.length ≤ sizeLine) (q : Q (.str (x ++ y)) M) : OX B X (binaryOp .Add) (.str x) (.str y) G M Q := fun F σ H Q' v w r p1 p2 k => by
  cases p1; cases p2; exact WO.of op_add_str ⟨x, y, rfl, rfl, h, k.at r q (.str _)⟩
theorem ox_lt (q : Q (.bl (decide (i < j))) M) : OX B X (compareOp .Lt) (.int i) (.int j) G M Q := fun F σ H Q' v w r p1 p2 k => by
  cases p1; cases p2; exact WO.of op_lt ⟨i, j, rfl, rfl, k.at r q (.bl _)⟩
theorem ox_le (q : Q (.bl (decide (i ≤ j))) M) : OX B X (compareOp .LtE) (.int i) (.int j) G M Q := fun F σ H Q' v w r p1 p2 k => by
  cases p1; cases p2; exact WO.of op_le ⟨i, j, rfl, rfl, k.at r q (.bl _)⟩
theorem ox_gt (q : Q (.bl (decide (j < i))) M) : OX B X (compareOp .Gt) (.int i) (.int j) G M Q := fun F σ H Q' v w r p1 p2 k => by
  cases p1; cases p2; exact WO.of op_gt ⟨i, j, rfl, rfl, k.at r q (.bl _)⟩
theorem ox_ge (q : Q (.bl (decide (j ≤ i))) M) : OX B X (compareOp .GtE) (.int i) (.int j) G M Q := fun F σ H Q' v w r p1 p2 k => by
  cases p1; cases p2; exact WO.of op_ge ⟨i, j, rfl, rfl, k.at r q (.bl _)⟩
theorem dec_of {p q : Prop} [Decidable p] [Decidable q] (h : p ↔ q) : decide p = decide q := by
  by_cases hp : p
  · rw [decide_eq_true hp, decide_eq_true (h.mp hp)]
  · rw [decide_eq_false hp, decide_eq_false fun z => hp (h.mpr z)]
theorem ox_eqI (q : Q (.bl (decide (i = j))) M) : OX B X (compareOp .Eq) (.int i) (.int j) G M Q := fun F σ H Q' v w r p1 p2 k => by
  cases p1; cases p2; exact WO.of op_eq ⟨rfl, by rw [dec_of (⟨fun e => V.int.inj e, fun e => congrArg V.int e⟩ : V.int i = V.int j ↔ i = j)]; exact k.at r q (.bl _)⟩
theorem ox_neI (q : Q (.bl (!decide (i = j))) M) : OX B X (compareOp .NotEq) (.int i) (.int j) G M Q := fun F σ H Q' v w r p1 p2 k => by
  cases p1; cases p2; exact WO.of op_ne ⟨rfl, by rw [dec_of (⟨fun e => V.int.inj e, fun e => congrArg V.int e⟩ : V.int i = V.int j ↔ i = j)]; exact k.at r q (.bl _)⟩
theorem ox_eqS (q : Q (.bl (decide (x = y))) M) : OX B X (compareOp .Eq) (.str x) (.str y) G M Q := fun F σ H Q' v w r p1 p2 k => by
  cases p1; cases p2; exact WO.of op_eq ⟨rfl, by rw [dec_of (⟨fun e => V.str.inj e, fun e => congrArg V.str e⟩ : V.str x = V.str y ↔ x = y)]; exact k.at r q (.bl _)⟩
theorem ox_neS (q : Q (.bl (!decide (x = y))) M) : OX B X (compareOp .NotEq) (.str x) (.str y) G M Q := fun F σ H Q' v w r p1 p2 k => by
  cases p1; cases p2; exact WO.of op_ne ⟨rfl, by rw [dec_of (⟨fun e => V.str.inj e, fun e => congrArg V.str e⟩ : V.str x = V.str y ↔ x = y)]; exact k.at r q (.bl _)⟩
theorem ox_eqB {x y : Bool} (q : Q (.bl (decide (x = y))) M) : OX B X (compareOp .Eq) (.bl x) (.bl y) G M Q := fun F σ H Q' v w r p1 p2 k => by
  cases p1; cases p2; exact WO.of op_eq ⟨rfl, by rw [dec_of (⟨fun e => V.bl.inj e, fun e => congrArg V.bl e⟩ : V.bl x = V.bl y ↔ x = y)]; exact k.at r q (.bl _)⟩
theorem ox_neB {x y : Bool} (q : Q (.bl (!decide (x = y))) M) : OX B X (compareOp .NotEq) (.bl x) (.bl y) G M Q := fun F σ H Q' v w r p1 p2 k => by
  cases p1; cases p2; exact WO.of op_ne ⟨rfl, by rw [dec_of (⟨fun e => V.bl.inj e, fun e => congrArg V.bl e⟩ : V.bl x = V.bl y ↔ x = y)]; exact k.at r q (.bl _)⟩
/-- is None -/
def D.isN : D → Bool
  | .non => true
  | _ => false
theorem Rp.isN {K : PySem.W.Frag} {F : Hp} {v : V} {d : D} (r : Rp K F v d) : decide (v = .non) = d.isN := by
  cases r <;> first | rfl | exact decide_eq_false (fun e => nomatch e)
theorem ox_is {d : D} (q : Q (.bl d.isN) M) : OX B X (compareOp .Is) d .non G M Q := fun F σ H Q' v w r p1 p2 k => by
  cases p2; exact WO.of op_isN ⟨rfl, by rw [p1.isN]; exact k.at r q (.bl _)⟩
theorem ox_isnot {d : D} (q : Q (.bl (!d.isN)) M) : OX B X (compareOp .IsNot) d .non G M Q := fun F σ H Q' v w r p1 p2 k => by
  cases p2; exact WO.of op_notN ⟨rfl, by rw [p1.isN]; exact k.at r q (.bl _)⟩
end
end FL

namespace FL
open PySem PySem.Spec PyProof.Rows L2

structure En where
  nx : Sl → Mem → Prop
  rt : D → Mem → Prop
  bk : Sl → Mem → Prop := fun _ _ => False
  ct : Sl → Mem → Prop := fun _ _ => False
/-- then n -/
abbrev En.sq (E : En) (n : Sl → Mem → Prop) : En := ⟨n, E.rt, E.bk, E.ct⟩
/-- a loop's turn, then n -/
abbrev En.lp (E : En) (n : Sl → Mem → Prop) : En := ⟨n, E.rt, E.nx, n⟩
/-- a def's own ends -/
abbrev En.df (Q : D → Mem → Prop) : En := ⟨fun _ M' => Q .non M', Q, fun _ _ => False, fun _ _ => False⟩
def KN (B : Bs) (X : Cx) (F : Hp) (n : Sl → Mem → Prop) (n' : L2.St → Hp → Prop) : Prop := ∀ σ' H' F' G' M', n G' M' → Same F F' → R B X.K F' σ' H' G' M' → n' σ' H'
def KR (B : Bs) (X : Cx) (F : Hp) (q : D → Mem → Prop) (q' : VK) : Prop := ∀ v H' F' d M', q d M' → Same F F' → (∃ σ' G', R B X.K F' σ' H' G' M') → Rp X.K F' v d → q' v H'
structure KS (B : Bs) (X : Cx) (F : Hp) (E : En) (D' : Ends) : Prop where
  nx : KN B X F E.nx D'.nx
  rt : KR B X F E.rt D'.rt
  bk : KN B X F E.bk D'.bk
  ct : KN B X F E.ct D'.ct
def SX (B : Bs) (X : Cx) (st : Stmt) (E : En) (G : Sl) (M : Mem) : Prop := ∀ F σ H D', R B X.K F σ H G M → KS B X F E D' → WS X st D' σ H
def SXs (B : Bs) (X : Cx) (st : List Stmt) (E : En) (G : Sl) (M : Mem) : Prop := ∀ F σ H D', R B X.K F σ H G M → KS B X F E D' → WSs X st D' σ H
def GX (B : Bs) (X : Cx) (tg : Expr) (d : D) (G : Sl) (M : Mem) (Q : Sl → Mem → Prop) : Prop := ∀ F σ H Q' v, R B X.K F σ H G M → Rp X.K F v d → KN B X F Q Q' → WG X tg v σ H Q'
def WGs (X : Cx) (ts : List Expr) : TGs := fun vs σ H Q => ∀ (pins : List (Addr × Obj)) (s : Shared) (us : List Value), Inv X pins σ H s → Vals vs us →
  wpAny (model X.prog X.w) X.A (assignInOrder ((assignEach ts X.env).map (·.2)) us) (fun _ s' => ∃ σ' H', Inv X pins σ' H' s' ∧ Q σ' H') X.xe s
theorem pgs_wgs {X : Cx} {ts : List Expr} : PGs X ts (WGs X ts) := ⟨fun pins s _ _ _ us _ I r h => h pins s us I r⟩
theorem WGs.of {X : Cx} {ts : List Expr} {t : TGs} {vs : List V} {σ : L2.St} {H : Hp} {Q : L2.St → Hp → Prop} (h : PGs X ts t) (q : t vs σ H Q) : WGs X ts vs σ H Q := fun pins s us I r => h.run pins s σ H vs us Q I r q
def GXs (B : Bs) (X : Cx) (ts : List Expr) (ds : List D) (G : Sl) (M : Mem) (Q : Sl → Mem → Prop) : Prop := ∀ F σ H Q' vs, R B X.K F σ H G M → RpAll X.K F vs ds → KN B X F Q Q' → WGs X ts vs σ H Q'

section
variable {B : Bs} {X : Cx} {a b c e o tg : Expr} {es : List Expr} {G G' : Sl} {M M' : Mem} {Q Q2 : D → Mem → Prop} {E : En} {pos p pos' : Pos} {d : D} {F F1 : Hp} {σ : L2.St} {st : Stmt} {sts rest : List Stmt}
theorem KN.mono {n : Sl → Mem → Prop} {n' : L2.St → Hp → Prop} (e : Same F F1) (k : KN B X F n n') : KN B X F1 n n' := fun σ' H' F' G' M' q s r => k σ' H' F' G' M' q (e.trans s) r
theorem KR.mono {q : D → Mem → Prop} {q' : VK} (e : Same F F1) (k : KR B X F q q') : KR B X F1 q q' := fun v H' F' d M' h s => k v H' F' d M' h (e.trans s)
theorem KS.mono {D' : Ends} (e : Same F F1) (k : KS B X F E D') : KS B X F1 E D' := ⟨k.nx.mono e, k.rt.mono e, k.bk.mono e, k.ct.mono e⟩
theorem SXs.imp {E2 : En} (h : SXs B X sts E G M) (h1 : ∀ G M, E.nx G M → E2.nx G M) (h2 : ∀ d M, E.rt d M → E2.rt d M) (h3 : ∀ G M, E.bk G M → E2.bk G M) (h4 : ∀ G M, E.ct G M → E2.ct G M) : SXs B X sts E2 G M := fun F σ H D' r k =>
  h F σ H D' r ⟨fun _ _ _ _ _ q => k.nx _ _ _ _ _ (h1 _ _ q), fun _ _ _ _ _ q => k.rt _ _ _ _ _ (h2 _ _ q), fun _ _ _ _ _ q => k.bk _ _ _ _ _ (h3 _ _ q), fun _ _ _ _ _ q => k.ct _ _ _ _ _ (h4 _ _ q)⟩

/-! ### blocks -/
theorem sxs_nil (q : E.nx G M) : SXs B X [] E G M := fun F σ H D' r k => WSs.of pss_nil (k.nx σ H F G M q (Same.refl F) r)
theorem sxs_cons (h : SX B X st (E.sq (SXs B X rest E)) G M) : SXs B X (st :: rest) E G M := fun F σ H D' r k =>
  WSs.of (pss_cons ps_ws pss_wss) (h F σ H _ r ⟨fun σ1 H1 F1 G1 M1 q1 s1 r1 => q1 F1 σ1 H1 D' r1 (k.mono s1), k.rt, k.bk, k.ct⟩)
theorem sxs_one (h : SX B X st E G M) : SXs B X [st] E G M := fun F σ H D' r k => WSs.of (pss_one ps_ws) (h F σ H D' r k)
/-- less is known of the cells -/
theorem sxs_less (h : ∀ a o, M' a = some o → M a = some o) (q : SXs B X sts E G M') : SXs B X sts E G M := fun F σ H D' r k => q F σ H D' (r.less h) k
theorem ex_less (h : EX B X e G M fun d M1 => ∃ M2 : Mem, (∀ a o, M2 a = some o → M1 a = some o) ∧ Q d M2) : EX B X e G M Q := fun F σ H Q' r k =>
  h F σ H Q' r fun v H1 F1 d1 M1 ⟨M2, hl, q⟩ s1 r1 p1 => k v H1 F1 d1 M2 q s1 (r1.less hl) p1
/-- a list cell that is handed on frozen -/
theorem ex_freeze (h : EX B X e G M fun d M1 => ∃ p ds, d = .ref p ∧ M1 p = some (.lst ds) ∧ Q (.lst ds) (mdel M1 p)) : EX B X e G M Q := fun F σ H Q' r k =>
  h F σ H Q' r fun v H1 F1 d1 M1 ⟨p, ds, e, hm, q⟩ s1 r1 p1 => by
    subst e; cases p1
    obtain ⟨F2, s2, r2, p2⟩ := r1.freeze hm
    exact k _ H1 F2 _ _ q (s1.trans s2) r2 p2
/-- a slot's list cell is frozen -/
theorem sxs_freeze {i : Nat} {p : Addr} {ds : List D} (hG : G[i]? = some (some (.ref p))) (hM : M p = some (.lst ds)) (h : SXs B X sts E (G.set i (some (.lst ds))) (mdel M p)) : SXs B X sts E G M := fun F σ H D' r k => by
  obtain ⟨F2, s2, r2, p2⟩ := r.freeze hM
  refine h F2 σ H D' ⟨?_, r2.ex, r2.mem, r2.bf, r2.bk⟩ (k.mono s2)
  obtain ⟨v, hv, pv⟩ := r2.slots.2 i _ hG
  cases pv
  have z := r2.slots.set (i := i) p2
  have e : σ.set i (some (.ref p)) = σ := by
    apply List.ext_getElem?
    intro j
    by_cases hj : i = j
    · subst hj
      rw [List.getElem?_set_self (List.getElem?_eq_some_iff.mp hv).1, hv]
    · rw [List.getElem?_set_ne hj]
  rw [e] at z
  exact z

/-! ### small statements -/
theorem sx_pass (q : E.nx G M) : SX B X (.Pass pos) E G M := fun F σ H D' r k => WS.of ps_pass (k.nx σ H F G M q (Same.refl F) r)
theorem sx_break (q : E.bk G M) : SX B X (.Break pos) E G M := fun F σ H D' r k => WS.of ps_break (k.bk σ H F G M q (Same.refl F) r)
theorem sx_continue (q : E.ct G M) : SX B X (.Continue pos) E G M := fun F σ H D' r k => WS.of ps_continue (k.ct σ H F G M q (Same.refl F) r)
theorem sx_expr (hs : swapsWith e none pos.line X.env = pure false) (h : EX B X e G M fun _ M1 => E.nx G M1) : SX B X (.Expr e pos) E G M := fun F σ H D' r k =>
  WS.of (ps_expr pe_we hs) (h F σ H _ r fun v H1 F1 d1 M1 q1 s1 r1 p1 => k.nx σ H1 F1 G M1 q1 s1 r1)
theorem sx_ret (h : EX B X e G M E.rt) : SX B X (.Return (some e) pos) E G M := fun F σ H D' r k =>
  WS.of (ps_ret pe_we) (h F σ H _ r fun v H1 F1 d1 M1 q1 s1 r1 p1 => k.rt v H1 F1 d1 M1 q1 s1 ⟨_, _, r1⟩ p1)
theorem sx_retN (q : E.rt .non M) : SX B X (.Return none pos) E G M := fun F σ H D' r k => WS.of ps_retN (k.rt .non H F .non M q (Same.refl F) ⟨_, _, r⟩ .non)
theorem sx_if {A1 B1 : List Stmt} (h : TX B X c G M fun t M1 => if t = true then SXs B X A1 E G M1 else SXs B X B1 E G M1) : SX B X (.If c A1 B1 pos) E G M := fun F σ H D' r k =>
  WS.of (ps_if pt_wt pss_wss pss_wss) (h F σ H _ r fun t H1 F1 M1 q1 s1 r1 => ite_mono q1 (fun q => q F1 σ H1 D' r1 (k.mono s1)) fun q => q F1 σ H1 D' r1 (k.mono s1))

/-! ### targets -/
/-- a name to which is stored -/
structure Lc (X : Cx) (i : Nat) (x : Str) : Prop where
  nd : X.N.Nodup
  n : X.N[i]? = some x
  l : Loc X.env.scope x
  f : X.fn x = true ∨ X.env.scope.names.lookup x = some .local
theorem R.set {K : PySem.W.Frag} {H : Hp} {i : Nat} {v : V} (r : R B K F σ H G M) (p : Rp K F v d) : R B K F (σ.set i (some v)) H (G.set i (some d)) M := ⟨r.slots.set p, r.ex, r.mem, r.bf, r.bk⟩
theorem gx_name {i : Nat} {x : Str} {Q : Sl → Mem → Prop} (h : Lc X i x) (q : Q (G.set i (some d)) M) : GX B X (.Name x pos) d G M Q := fun F σ H Q' v r p k =>
  WG.of (pg_name h.nd h.n h.l h.f) (k _ H F _ M q (Same.refl F) (r.set p))
theorem gxs_nil {Q : Sl → Mem → Prop} (q : Q G M) : GXs B X [] [] G M Q := fun F σ H Q' vs r p k => by
  cases p
  exact WGs.of pgs_nil ⟨rfl, k σ H F G M q (Same.refl F) r⟩
theorem gxs_cons {Q : Sl → Mem → Prop} {t : Expr} {ts : List Expr} {ds : List D} (hs : (assignEach (t :: ts) X.env).map (·.2) = assign t X.env :: (assignEach ts X.env).map (·.2))
    (h : GX B X t d G M fun G1 M1 => GXs B X ts ds G1 M1 Q) : GXs B X (t :: ts) (d :: ds) G M Q := fun F σ H Q' vs r p k => by
  cases p with
  | cons p1 p2 => exact WGs.of (pgs_cons pg_wg pgs_wgs hs) ⟨_, _, rfl, h F σ H _ _ r p1 fun σ1 H1 F1 G1 M1 q1 s1 r1 => q1 F1 σ1 H1 Q' _ r1 (p2.mono s1) (k.mono s1)⟩
theorem gx_tup {Q : Sl → Mem → Prop} {ts : List Expr} {kk : Nat} {ds : List D} {n : Nat} (hc : X.calm = true) (hl : ds.length = n) (hn : (assignEach ts X.env).length = n) (hst : (assignEach ts X.env).findIdx? (·.1) = none)
    (h : GXs B X ts ds G M Q) : GX B X (.Tuple ts kk pos) (.tup ds) G M Q := fun F σ H Q' v r p k => by
  cases p with
  | @tup a xs _ hq ra => exact WG.of (pg_tup hc pgs_wgs hn hst) ⟨a, xs, rfl, sq_same r.ex hq, by rw [ra.length, hl], h F σ H Q' xs r ra k⟩
theorem sx_asg (hs : swapsWithSole [tg] e pos.line X.env = pure false) (hw : swappedStores [tg] e X.env = pure none) (h1 : (assignEach [tg] X.env).map (·.2) = [assign tg X.env])
    (h : EX B X e G M fun d M1 => GX B X tg d G M1 E.nx) : SX B X (.Assign [tg] e pos) E G M := fun F σ H D' r k =>
  WS.of (ps_asg pe_we pg_wg hs hw h1) (h F σ H _ r fun v H1 F1 d1 M1 q1 s1 r1 p1 => q1 F1 σ H1 _ v r1 p1 (k.nx.mono s1))
theorem sx_set {i : Nat} {x : Str} (h : Lc X i x) (hs : swapsWith e (some (.Name x pos')) pos.line X.env = pure false) (q : EX B X e G M fun d M1 => E.nx (G.set i (some d)) M1) : SX B X (.Assign [.Name x pos'] e pos) E G M := fun F σ H D' r k =>
  WS.of (ps_set h.nd h.n h.l pe_we hs h.f) (q F σ H _ r fun v H1 F1 d1 M1 q1 s1 r1 p1 => k.nx _ H1 F1 _ M1 q1 s1 (r1.set p1))
/-- a, b = x, y with plain local names -/
theorem sx_par {i j : Nat} {x y : Str} {px py pt : Pos} {kt k2 pt2} (hc : X.calm = true) (hN : X.N.Nodup) (hi : X.N[i]? = some x) (hj : X.N[j]? = some y) (hij : i ≠ j) (hx : X.env.scope.names.lookup x = some .local) (hy : X.env.scope.names.lookup y = some .local)
    (hw : swappedStores [.Tuple [.Name x px, .Name y py] kt pt] (.Tuple [a, b] k2 pt2) X.env = pure (some [x, y])) (hs : swapsWithSole [.Tuple [.Name x px, .Name y py] kt pt] (.Tuple [a, b] k2 pt2) pos.line X.env = pure false)
    (ha : starEach [a, b] X.env = (false, eval a X.env) :: starEach [b] X.env) (hb : starEach [b] X.env = (false, eval b X.env) :: starEach [] X.env)
    (h : EX B X a G M fun d1 M1 => EX B X b G M1 fun d2 M2 => E.nx ((G.set i (some d1)).set j (some d2)) M2) : SX B X (.Assign [.Tuple [.Name x px, .Name y py] kt pt] (.Tuple [a, b] k2 pt2) pos) E G M := fun F σ H D' r k =>
  WS.of (ps_par hc hN hi hj hij hx hy (pa_cons pe_we (pa_cons pe_we pa_nil hb) ha) hw hs) (h F σ H _ r fun v1 H1 F1 d1 M1 q1 s1 r1 p1 => q1 F1 σ H1 _ r1 fun v2 H2 F2 d2 M2 q2 s2 r2 p2 =>
    ⟨v1, v2, rfl, k.nx _ H2 F2 _ M2 q2 (s1.trans s2) ((r2.set (p1.mono s2)).set p2)⟩)
/-- a cell's item is stored -/
theorem gx_sub {Q : Sl → Mem → Prop} {i : Expr} (ha : ∀ v, assign (.Subscript o i pos) X.env v = (do
      let ov ← holding [v] (eval o X.env)
      let iv ← holding [v, ov] (eval i X.env)
      standAt pos
      holding [v, ov, iv] (setItem ov iv v)
      release [v, ov, iv] []))
    (h : EX B X o G M fun x M1 => EX B X i G M1 fun y M2 => ∃ l ds k j, x = .ref l ∧ y = .int k ∧ M2 l = some (.lst ds) ∧ ixN ds.length k = some j ∧ Q G (mupd M2 l (.lst (ds.set j d)))) : GX B X (.Subscript o i pos) d G M Q := fun F σ H Q' v r p k =>
  WG.of (pg_sub pe_we pe_we set_list ha) (h F σ H _ r fun v1 H1 F1 d1 M1 q1 s1 r1 p1 => q1 F1 σ H1 _ r1 fun v2 H2 F2 d2 M2 q2 s2 r2 p2 => by
    obtain ⟨l, ds, kk, j, e1, e2, hm, hj, q⟩ := q2
    subst e1; subst e2; cases p1; cases p2
    obtain ⟨f0, xs, hx, rx⟩ := r2.mem l _ hm
    refine ⟨l, xs, kk, j, rfl, rfl, hx, by rw [rx.length]; exact hj, ?_⟩
    exact k σ _ F2 G _ q (s1.trans s2) (r2.write hm ⟨_, upd_same, rx.set j (p.mono (s1.trans s2))⟩))

/-! ### while -/
theorem sx_while {body : List Stmt} (hp : PassesOwn (model X.prog X.w) X.A X.env X.xe) (I : Nat → Sl → Mem → Prop) {m : Nat} (h0 : I m G M)
    (h : ∀ m G' M', I m G' M' → TX B X c G' M' fun t M1 => if t = true then SXs B X body (E.lp fun G2 M2 => ∃ m', m' < m ∧ I m' G2 M2) G' M1 else E.nx G' M1) :
    SX B X (.While c body [] pos) E G M := fun F σ H D' r k =>
  WS.of (ps_while hp pt_wt pss_wss) ⟨fun m σ' H' => ∃ F' G' M', Same F F' ∧ R B X.K F' σ' H' G' M' ∧ I m G' M', ⟨m, F, G, M, Same.refl F, r, h0⟩, fun m σ' H' ⟨F', G', M', s', r', i'⟩ =>
    h m G' M' i' F' σ' H' _ r' fun t H1 F1 M1 q1 s1 r1 => by
      cases t with
      | true =>
        rw [if_pos rfl] at q1 ⊢
        refine ⟨fun σ2 H2 => ∃ m', m' < m ∧ ∃ F' G' M', Same F F' ∧ R B X.K F' σ2 H2 G' M' ∧ I m' G' M', fun _ _ z => z, q1 F1 σ' H1 _ r1 ⟨?_, (k.mono (s'.trans s1)).rt, (k.mono (s'.trans s1)).nx, ?_⟩⟩
        · intro σ2 H2 F2 G2 M2 ⟨m', hm, i2⟩ s2 r2
          exact ⟨m', hm, F2, G2, M2, (s'.trans s1).trans s2, r2, i2⟩
        · intro σ2 H2 F2 G2 M2 ⟨m', hm, i2⟩ s2 r2
          exact ⟨m', hm, F2, G2, M2, (s'.trans s1).trans s2, r2, i2⟩
      | false =>
        rw [if_neg Bool.false_ne_true] at q1 ⊢
        exact k.nx _ _ _ _ _ q1 (s'.trans s1) r1⟩
end

/-! ### what is walked -/
/-- while F stands, J gives the data ds, one by one -/
structure Wk (K : PySem.W.Frag) (F : Hp) (J : It) (ds : List D) : Prop where
  goes : ∀ i H, i < ds.length → Same F H → J.go i H
  stops : ∀ H, Same F H → J.stop ds.length H
  yields : ∀ i H x H', i < ds.length → Same F H → J.yld i H x H' → ∃ d, ds[i]? = some d ∧ ∀ B F1 σ G M, Same F F1 → R B K F1 σ H G M → ∃ F2, Same F1 F2 ∧ R B K F2 σ H' G M ∧ Rp K F2 x d
def WIt (X : Cx) (tg iter : Expr) : TI := fun σ H Rr => ∀ (pins : List (Addr × Obj)) (s : Shared), Inv X pins σ H s →
  wpAny (model X.prog X.w) X.A (eval iter X.env) (fun v s1 => wpAny (model X.prog X.w) X.A (pyIter v) (PIE X pins σ tg Rr) X.xe s1) X.xe s
theorem pi_wi {X : Cx} {tg iter : Expr} : PI X tg iter (WIt X tg iter) := ⟨fun pins s _ _ _ I h => h pins s I⟩
theorem WIt.of {X : Cx} {tg iter : Expr} {t : TI} {σ : L2.St} {H : Hp} {Rr : It → Hp → Prop} (h : PI X tg iter t) (q : t σ H Rr) : WIt X tg iter σ H Rr := fun pins s I => h.run pins s σ H Rr I q
/-- an iterable that gives ds -/
def LX (B : Bs) (X : Cx) (tg iter : Expr) (G : Sl) (M : Mem) (Q : List D → Mem → Prop) : Prop := ∀ F σ H (R' : It → Hp → Prop), R B X.K F σ H G M →
  (∀ J H' F' ds M', Q ds M' → Same F F' → R B X.K F' σ H' G M' → Wk X.K F' J ds → R' J H') → WIt X tg iter σ H R'
section
variable {B : Bs} {X : Cx} {a b c e o tg iter : Expr} {es : List Expr} {G G' : Sl} {M M' : Mem} {Q : List D → Mem → Prop} {E : En} {pos p pos' : Pos} {F F1 : Hp} {σ : L2.St} {st : Stmt} {sts rest : List Stmt}
theorem wk_list {K : PySem.W.Frag} {a : Addr} {xs : List V} {ds : List D} (h : SqL K F a xs) (r : RpAll K F xs ds) : Wk K F (Itl K a) ds where
  goes := fun i H hi s => ⟨xs, xs[i]'(by rw [r.length]; exact hi), s.seq h, by simp [r.length, hi]⟩
  stops := fun H s => ⟨xs, s.seq h, by rw [r.length]; exact Nat.le_refl _⟩
  yields := fun i H x H' hi s y => by
    obtain ⟨e, y⟩ := y
    subst e
    obtain ⟨d, hd, rd⟩ := r.getV (y xs (s.seq h))
    exact ⟨d, hd, fun B F1 σ G M s1 r1 => ⟨F1, Same.refl F1, r1, rd.mono s1⟩⟩
theorem wk_tup {K : PySem.W.Frag} {a : Addr} {xs : List V} {ds : List D} (h : SqT K F a xs) (r : RpAll K F xs ds) : Wk K F (Itt K a) ds where
  goes := fun i H hi s => ⟨xs, xs[i]'(by rw [r.length]; exact hi), sq_same s h, by simp [r.length, hi]⟩
  stops := fun H s => ⟨xs, sq_same s h, by rw [r.length]; exact Nat.le_refl _⟩
  yields := fun i H x H' hi s y => by
    obtain ⟨e, y⟩ := y
    subst e
    obtain ⟨d, hd, rd⟩ := r.getV (y xs (sq_same s h))
    exact ⟨d, hd, fun B F1 σ G M s1 r1 => ⟨F1, Same.refl F1, r1, rd.mono s1⟩⟩
/-- the ints that range gives -/
def rangeD (lo : Int) (n : Nat) : List D := (List.range n).map fun (i : Nat) => D.int (lo + (i : Int))
theorem rangeD_len {lo : Int} {n : Nat} : (rangeD lo n).length = n := by simp [rangeD]
theorem rangeD_at {lo : Int} {n i : Nat} {d : D} (h : (rangeD lo n)[i]? = some d) : i < n ∧ d = .int (lo + (i : Int)) := by
  have hi : i < n := by
    have := (List.getElem?_eq_some_iff.mp h).1
    rwa [rangeD_len] at this
  refine ⟨hi, ?_⟩
  unfold rangeD at h
  rw [List.getElem?_map, List.getElem?_range hi] at h
  exact (Option.some.inj h).symm
theorem wk_range {K : PySem.W.Frag} {lo : Int} {n : Nat} : Wk K F (Itr lo n) (rangeD lo n) where
  goes := fun i H hi s => by rw [rangeD_len] at hi; exact hi
  stops := fun H s => by
    show n ≤ _
    rw [rangeD_len]
    exact Nat.le_refl n
  yields := fun i H x H' hi s y => by
    obtain ⟨e, y⟩ := y
    subst e; subst y
    have hi' : i < n := by rw [rangeD_len] at hi; exact hi
    exact ⟨.int (lo + i), by unfold rangeD; rw [List.getElem?_map, List.getElem?_range hi']; rfl, fun B F1 σ G M s1 r1 => ⟨F1, Same.refl F1, r1, .int _⟩⟩
theorem lx_list (h : EX B X e G M fun d M1 => ∃ ds, d = .lst ds ∧ Q ds M1) : LX B X tg e G M Q := fun F σ H R' r k =>
  WIt.of (pi_list pe_we) (h F σ H _ r fun v H1 F1 d1 M1 ⟨ds, e1, q⟩ s1 r1 p1 => by
    subst e1
    cases p1 with
    | @lst a xs _ hs rs => exact ⟨a, rfl, ⟨xs, SqL.of (r1.ex _ _ hs)⟩, k _ _ F1 ds M1 q s1 r1 (wk_list (SqL.of hs) rs)⟩)
theorem lx_tup (h : EX B X e G M fun d M1 => ∃ ds, d = .tup ds ∧ Q ds M1) : LX B X tg e G M Q := fun F σ H R' r k =>
  WIt.of (pi_tup pe_we) (h F σ H _ r fun v H1 F1 d1 M1 ⟨ds, e1, q⟩ s1 r1 p1 => by
    subst e1
    cases p1 with
    | @tup a xs _ hs rs => exact ⟨a, rfl, ⟨xs, sq_same r1.ex hs⟩, k _ _ F1 ds M1 q s1 r1 (wk_tup hs rs)⟩)
/-- a list cell that stays as it is while it is walked: it is frozen -/
theorem lx_cell (h : EX B X e G M fun d M1 => ∃ l ds, d = .ref l ∧ M1 l = some (.lst ds) ∧ Q ds (mdel M1 l)) : LX B X tg e G M Q := fun F σ H R' r k =>
  WIt.of (pi_list pe_we) (h F σ H _ r fun v H1 F1 d1 M1 ⟨l, ds, e1, hm, q⟩ s1 r1 p1 => by
    subst e1
    cases p1
    obtain ⟨F2, s2, r2, p2⟩ := r1.freeze hm
    cases p2 with
    | @lst a xs _ hs rs => exact ⟨l, rfl, ⟨xs, SqL.of (r2.ex _ _ hs)⟩, k _ _ F2 ds _ q (s1.trans s2) r2 (wk_list (SqL.of hs) rs)⟩)
theorem lx_range1 (hg : Gl X "range") (hm : X.mg "range" = none) (hs : starEach [a] X.env = [(false, eval a X.env)])
    (h : EX B X a G M fun d M1 => ∃ n : Int, d = .int n ∧ -(2 ^ 62) ≤ n ∧ n < 2 ^ 62 ∧ Q (rangeD 0 n.toNat) M1) : LX B X tg (.Call (.Name "range" p) [a] [] pos) G M Q := fun F σ H R' r k =>
  WIt.of (pi_range1 hg hm (pa_cons pe_we pa_nil (by rw [hs]; rfl)) hs) (h F σ H _ r fun v H1 F1 d1 M1 ⟨n, e1, h1, h2, q⟩ s1 r1 p1 => by
    subst e1; cases p1
    exact ⟨n, rfl, h1, h2, k _ _ F1 _ M1 q s1 r1 wk_range⟩)
theorem lx_range2 (hg : Gl X "range") (hm : X.mg "range" = none) (hs : starEach [a, b] X.env = [(false, eval a X.env), (false, eval b X.env)]) (hs2 : starEach [b] X.env = [(false, eval b X.env)])
    (h : EX B X a G M fun d M1 => EX B X b G M1 fun d2 M2 => ∃ m n : Int, d = .int m ∧ d2 = .int n ∧ (-(2 ^ 62) ≤ m ∧ m < 2 ^ 62 ∧ -(2 ^ 62) ≤ n ∧ n < 2 ^ 62) ∧ Q (rangeD m (n - m).toNat) M2) : LX B X tg (.Call (.Name "range" p) [a, b] [] pos) G M Q := fun F σ H R' r k =>
  WIt.of (pi_range2 hg hm (pa_cons pe_we (pa_cons pe_we pa_nil (by rw [hs2]; rfl)) (by rw [hs, hs2])) hs hs2) (h F σ H _ r fun v H1 F1 d1 M1 q1 s1 r1 p1 => q1 F1 σ H1 _ r1 fun v2 H2 F2 d2 M2 q2 s2 r2 p2 => by
    obtain ⟨m, n, e1, e2, hh, q⟩ := q2
    subst e1; subst e2; cases p1; cases p2
    exact ⟨m, n, rfl, hh, k _ _ F2 _ M2 q (s1.trans s2) r2 wk_range⟩)
/-- the pairs that enumerate gives -/
def enumD (ds : List D) : List D := (List.range ds.length).map fun i => D.tup [.int (i : Nat), ds.getD i .non]
theorem enumD_get {ds : List D} {i : Nat} {d : D} (h : ds[i]? = some d) : (enumD ds)[i]? = some (.tup [.int (i : Nat), d]) := by
  unfold enumD
  have hi := (List.getElem?_eq_some_iff.mp h).1
  rw [List.getElem?_map, List.getElem?_range hi]
  show some (D.tup [.int (i : Nat), ds.getD i .non]) = _
  rw [List.getD_eq_getElem?_getD, h]
  rfl
theorem enumD_len {ds : List D} : (enumD ds).length = ds.length := by simp [enumD]
theorem enumD_at {ds : List D} {i : Nat} {d : D} (h : (enumD ds)[i]? = some d) : ∃ x, ds[i]? = some x ∧ d = .tup [.int (i : Nat), x] := by
  have hi : i < ds.length := by rw [← enumD_len]; exact (List.getElem?_eq_some_iff.mp h).1
  have e : ds[i]? = some ds[i] := by simp
  rw [enumD_get e] at h
  exact ⟨ds[i], e, (Option.some.inj h).symm⟩
/-- a new pair -/
theorem pair_new {K : PySem.W.Frag} {F1 H : Hp} {G : Sl} {M : Mem} {T : Addr} {x y : V} {d e : D} (r : R B K F1 σ H G M) (hT : H T = none) (rx : Rp K F1 x d) (ry : Rp K F1 y e) :
    ∃ F2, Same F1 F2 ∧ R B K F2 σ (upd H T (.tup [x, y])) G M ∧ Rp K F2 (.ref T) (.tup [d, e]) :=
  ⟨upd F1 T (.tup [x, y]), (r.new hT).1, (r.new hT).2, .tup sq_upd (.cons (rx.mono (r.new hT).1) (.cons (ry.mono (r.new hT).1) .nil))⟩
theorem wk_enum {K : PySem.W.Frag} {a : Addr} {xs : List V} {ds : List D} (h : SqL K F a xs) (r : RpAll K F xs ds) : Wk K F (Ite K a) (enumD ds) where
  goes := fun i H hi s => by
    rw [enumD_len] at hi
    exact ⟨xs, xs[i]'(by rw [r.length]; exact hi), s.seq h, by simp [r.length, hi]⟩
  stops := fun H s => ⟨xs, s.seq h, by rw [r.length, enumD_len]; exact Nat.le_refl _⟩
  yields := fun i H x H' hi s y => by
    obtain ⟨T, u, h1, h2, h3, h4⟩ := y
    subst h1; subst h3
    obtain ⟨d, hd, rd⟩ := r.getV (h4 xs (s.seq h))
    exact ⟨_, enumD_get hd, fun B F1 σ G M s1 r1 => pair_new r1 h2 (.int _) (rd.mono s1)⟩
theorem lx_enum (hg : Gl X "enumerate") (hm : X.mg "enumerate" = none) (hs : starEach [e] X.env = [(false, eval e X.env)]) (ht : ∃ es k pp, tg = .Tuple es k pp)
    (h : EX B X e G M fun d M1 => ∃ ds, d = .lst ds ∧ Q (enumD ds) M1) : LX B X tg (.Call (.Name "enumerate" p) [e] [] pos) G M Q := fun F σ H R' r k => by
  obtain ⟨es, kk, pp, rfl⟩ := ht
  refine WIt.of (pi_enum hg hm (pa_cons pe_we pa_nil (by rw [hs]; rfl)) hs) (h F σ H _ r fun v H1 F1 d1 M1 ⟨ds, e1, q⟩ s1 r1 p1 => ?_)
  subst e1
  cases p1 with
  | @lst a xs _ hs rs => exact ⟨a, xs, rfl, SqL.of (r1.ex _ _ hs), k _ _ F1 _ M1 q s1 r1 (wk_enum (SqL.of hs) rs)⟩
end
end FL

namespace FL
open PySem PySem.Spec PyProof.Rows L2
section
variable {B : Bs} {X : Cx} {a b c e o tg iter elt : Expr} {es : List Expr} {G G' : Sl} {M M' : Mem} {Q : D → Mem → Prop} {E : En} {pos p pos' : Pos} {F F1 : Hp} {σ : L2.St} {st : Stmt} {sts rest body : List Stmt}

/-! ### for -/
theorem sx_for (hp : PassesOwn (model X.prog X.w) X.A X.env X.xe) (hc : X.calm = true) (hs : ∀ x, foldedSetIterable iter X.env x = pure x)
    (h : LX B X tg iter G M fun ds M1 => ∃ I : Nat → Sl → Mem → Prop, I 0 G M1 ∧
      (∀ i d G' M', ds[i]? = some d → I i G' M' → GX B X tg d G' M' fun G2 M2 => SXs B X body (E.lp (I (i + 1))) G2 M2) ∧ ∀ G' M', I ds.length G' M' → E.nx G' M') :
    SX B X (.For tg iter body [] pos) E G M := fun F σ H D' r k =>
  WS.of (ps_for hp hc pi_wi pg_wg pss_wss hs) (h F σ H _ r fun J H1 F1 ds M1 ⟨I, i0, turn, fin⟩ s1 r1 w => by
    refine ⟨fun i m σ' H' => m = ds.length - i ∧ i ≤ ds.length ∧ ∃ F' G' M', Same F1 F' ∧ R B X.K F' σ' H' G' M' ∧ I i G' M', ⟨_, rfl, Nat.zero_le _, F1, G, M1, Same.refl F1, r1, i0⟩, ?_⟩
    rintro i m σ' H' ⟨rfl, hi, F', G', M', s', r', hI⟩
    by_cases hlt : i < ds.length
    · refine .inr ⟨w.goes i H' hlt (s'.trans r'.ex), fun σ2 H2 => ∃ F' G' M', Same F1 F' ∧ R B X.K F' σ2 H2 G' M' ∧ I (i + 1) G' M', fun σ2 H2 z => ⟨ds.length - (i + 1), by omega, rfl, hlt, z⟩, fun x H2 y => ?_⟩
      obtain ⟨d, hd, yy⟩ := w.yields i H' x H2 hlt (s'.trans r'.ex) y
      obtain ⟨F2, s2, r2, p2⟩ := yy B F' σ' G' M' s' r'
      refine turn i d G' M' hd hI F2 σ' H2 _ x r2 p2 fun σ3 H3 F3 G3 M3 q3 s3 r3 => q3 F3 σ3 H3 _ r3 ?_
      have s03 : Same F F3 := s1.trans (s'.trans (s2.trans s3))
      refine ⟨?_, k.rt.mono s03, k.nx.mono s03, ?_⟩
      · exact fun σ4 H4 F4 G4 M4 q4 s4 r4 => ⟨F4, G4, M4, (s'.trans (s2.trans s3)).trans s4, r4, q4⟩
      · exact fun σ4 H4 F4 G4 M4 q4 s4 r4 => ⟨F4, G4, M4, (s'.trans (s2.trans s3)).trans s4, r4, q4⟩
    · have e : i = ds.length := by omega
      subst e
      exact .inl ⟨w.stops H' (s'.trans r'.ex), k.nx σ' H' F' G' M' (fin G' M' hI) (s1.trans s') r'⟩)

/-! ### comprehensions -/
def gwipe (G : Sl) : List Nat → Sl
  | [] => G
  | v :: vs => (gwipe G vs).set v none
theorem R.wipe {K : PySem.W.Frag} {H : Hp} (r : R B K F σ H G M) : ∀ vs : List Nat, R B K F (L2.wipe σ vs) H (gwipe G vs) M
  | [] => r
  | v :: vs => by
    have ih := R.wipe r vs
    exact ⟨ih.slots.setNone, ih.ex, ih.mem, ih.bf, ih.bk⟩
theorem wipe_in {σ : L2.St} {i : Nat} (hl : i < σ.length) : ∀ {vs : List Nat}, i ∈ vs → (L2.wipe σ vs)[i]? = some none
  | [], h => nomatch h
  | v :: vs, h => by
    unfold L2.wipe
    by_cases e : v = i
    · subst e
      rw [List.getElem?_set_self (by rw [wipe_length]; exact hl)]
    · rw [List.getElem?_set_ne e]
      exact wipe_in hl ((List.mem_cons.mp h).resolve_left fun z => e z.symm)
theorem wipe_out' {σ : L2.St} {i : Nat} : ∀ {vs : List Nat}, i ∉ vs → (L2.wipe σ vs)[i]? = σ[i]?
  | [], _ => rfl
  | v :: vs, h => by
    unfold L2.wipe
    rw [List.getElem?_set_ne (fun e => h (by simp [e]))]
    exact wipe_out' fun z => h (List.mem_cons_of_mem _ z)
theorem wipe_eq {σ τ : L2.St} {vs : List Nat} (hl : σ.length = τ.length) (h : ∀ i, i ∉ vs → σ[i]? = τ[i]?) : L2.wipe σ vs = L2.wipe τ vs := by
  apply List.ext_getElem?
  intro i
  by_cases hi : i ∈ vs
  · by_cases hb : i < σ.length
    · rw [wipe_in hb hi, wipe_in (by rw [← hl]; exact hb) hi]
    · rw [List.getElem?_eq_none (by rw [wipe_length]; omega), List.getElem?_eq_none (by rw [wipe_length]; omega)]
  · rw [wipe_out' hi, wipe_out' hi, h i hi]
/-- names to which a comprehension's item goes: one name, or a tuple of names -/
abbrev Tg := Sum Nat (List Nat)
def Tg.slots : Tg → List Nat
  | .inl i => [i]
  | .inr is => is
def gNs : List Nat → TGs
  | [] => gNil
  | i :: r => gCons (gName i) (gNs r)
def gTg (K : PySem.W.Frag) : Tg → TG
  | .inl i => gName i
  | .inr is => gTup K is.length (gNs is)
def setAll (σ : L2.St) : List Nat → List V → L2.St
  | i :: is, v :: vs => setAll (σ.set i (some v)) is vs
  | _, _ => σ
def gsetAll (G : Sl) : List Nat → List D → Sl
  | i :: is, v :: vs => gsetAll (G.set i (some v)) is vs
  | _, _ => G
theorem gNs_of {H : Hp} {Q : L2.St → Hp → Prop} : ∀ {is : List Nat} {vs : List V} {σ : L2.St}, vs.length = is.length → Q (setAll σ is vs) H → gNs is vs σ H Q
  | [], [], _, _, h => ⟨rfl, h⟩
  | [], _ :: _, _, e, _ => by simp at e
  | _ :: _, [], _, e, _ => by simp at e
  | i :: is, v :: vs, σ, e, h => ⟨v, vs, rfl, gNs_of (is := is) (vs := vs) (by simpa using e) h⟩
theorem R.setAll {K : PySem.W.Frag} {F H : Hp} {M : Mem} : ∀ {is : List Nat} {vs : List V} {ds : List D} {σ : L2.St} {G : Sl}, R B K F σ H G M → RpAll K F vs ds → R B K F (FL.setAll σ is vs) H (gsetAll G is ds) M
  | [], _, _, _, _, r, p => by cases p <;> exact r
  | _ :: _, [], _, _, _, r, p => by cases p; exact r
  | i :: is, v :: vs, d :: ds, σ, G, r, .cons p1 p2 => R.setAll (is := is) (vs := vs) (ds := ds) (σ := σ.set i (some v)) (G := G.set i (some d)) (R.set r p1) p2
theorem setAll_len : ∀ {is : List Nat} {vs : List V} {σ : L2.St}, (FL.setAll σ is vs).length = σ.length
  | [], _, _ => by unfold FL.setAll; rfl
  | _ :: _, [], _ => by unfold FL.setAll; rfl
  | i :: is, v :: vs, σ => by
    show (FL.setAll (σ.set i (some v)) is vs).length = σ.length
    rw [setAll_len, List.length_set]
theorem setAll_out {j : Nat} : ∀ {is : List Nat} {vs : List V} {σ : L2.St}, j ∉ is → (FL.setAll σ is vs)[j]? = σ[j]?
  | [], _, _, _ => by unfold FL.setAll; rfl
  | _ :: _, [], _, _ => by unfold FL.setAll; rfl
  | i :: is, v :: vs, σ, h => by
    show (FL.setAll (σ.set i (some v)) is vs)[j]? = σ[j]?
    rw [setAll_out (fun z => h (List.mem_cons_of_mem _ z)), List.getElem?_set_ne (fun e => h (by simp [e]))]
theorem wipe_setAll {σ : L2.St} {is : List Nat} {vs : List V} {own : List Nat} (h : ∀ i ∈ is, i ∈ own) : L2.wipe (FL.setAll (L2.wipe σ own) is vs) own = L2.wipe σ own := by
  refine wipe_eq (by rw [setAll_len, wipe_length]) fun i hi => ?_
  rw [setAll_out fun z => hi (h i z), wipe_out' hi]
/-- a clause's tests: none, or one -/
def TXs (B : Bs) (X : Cx) (ifs : List Expr) (G : Sl) (M : Mem) (Q : Bool → Mem → Prop) : Prop := match ifs with
  | [] => Q true M
  | [c] => TX B X c G M Q
  | _ => False
def WTs (X : Cx) (ifs : List Expr) : TT := fun σ H Q => ∀ (pins : List (Addr × Obj)) (s : Shared), Inv X pins σ H s →
  wpAny (model X.prog X.w) X.A (forIn ifs true fun c r => if r = true then do let ok ← isTrue c X.env (eval c X.env); pure (ForInStep.yield ok) else pure (ForInStep.yield r)) (TP X pins σ Q) X.xe s
theorem txs_ok {ifs : List Expr} {H : Hp} {Q : Bool → Mem → Prop} {Q' : Bool → Hp → Prop} (h : TXs B X ifs G M Q) (r : R B X.K F σ H G M) (k : KT B X F σ G Q Q') : WTs X ifs σ H Q' := by
  match ifs, h with
  | [], h => exact fun pins s I => pts_nil.run pins s σ H Q' I (k true H F M h (Same.refl F) r)
  | [c], h => exact fun pins s I => (pts_one pt_wt).run pins s σ H Q' I (h F σ H Q' r k)
/-- in every context of the block -/
abbrev Bk (X : Cx) (scope : Scope) (P : Cx → Prop) : Prop := ∀ (s : Shared) (H : Hp) (C : Addr) (cl : List (Str × Addr)) (fp : List Addr), P (X.blk s H scope (compEnvC scope cl C X.env) fp)
def WTb (X : Cx) (scope : Scope) (ifs : List Expr) : TT := fun σ H Q => Bk X scope fun X' => WTs X' ifs σ H Q
def WEb (X : Cx) (scope : Scope) (e : Expr) : TE := fun σ H Q => Bk X scope fun X' => WE X' e σ H Q
theorem pts_wtb {scope : Scope} {ifs : List Expr} : Bk X scope fun X' => PTs X' ifs (WTb X scope ifs) := fun s0 H0 C cl fp => ⟨fun pins s _ _ _ I h => h s0 H0 C cl fp pins s I⟩
theorem pe_web {scope : Scope} : Bk X scope fun X' => PE X' e (WEb X scope e) := fun s0 H0 C cl fp => ⟨fun pins s _ _ _ I h => h s0 H0 C cl fp pins s I⟩
/-- an item of data, for the target -/
def TgD (t : Tg) (d : D) (Q : List D → Prop) : Prop := match t with
  | .inl _ => Q [d]
  | .inr is => ∃ ds, d = .tup ds ∧ ds.length = is.length ∧ Q ds
/-- what a comprehension asks: L the new list; I by the turn, what is gathered, and the cells -/
def LcX (B : Bs) (X : Cx) (scope : Scope) (own : List Nat) (t : Tg) (ifs : List Expr) (elt : Expr) (G : Sl) (ds : List D) (M1 : Mem) (fin : Addr → List D → Mem → Prop) : Prop :=
  ∀ L, M1 L = none → ∃ I : Nat → List D → Mem → Prop, I 0 [] (mupd M1 L (.lst [])) ∧
    (∀ i d acc M', ds[i]? = some d → I i acc M' → M' L = some (.lst acc) → TgD t d fun dvs => Bk X scope fun X' => TXs B X' ifs (gsetAll (gwipe G own) t.slots dvs) M' fun b M3 =>
      if b = true then Bk X scope fun X2 => EX B X2 elt (gsetAll (gwipe G own) t.slots dvs) M3 fun y M4 => M4 L = some (.lst acc) ∧ acc.length < sizeLine ∧ I (i + 1) (acc ++ [y]) (mupd M4 L (.lst (acc ++ [y])))
      else M3 L = some (.lst acc) ∧ I (i + 1) acc M3) ∧
    ∀ acc M', I ds.length acc M' → M' L = some (.lst acc) → fin L acc M'
theorem lc_data {scope : Scope} {own : List (Str × Nat)} {t : Tg} {ifs : List Expr} {fin : Addr → List D → Mem → Prop} {Q' : VK} {H : Hp} (ht : ∀ i ∈ t.slots, i ∈ own.map (·.2)) (r : R B X.K F σ H G M)
    (h : LX B X tg iter G M fun ds M1 => LcX B X scope (own.map (·.2)) t ifs elt G ds M1 fin)
    (k : ∀ L acc H' F' M', fin L acc M' → M' L = some (.lst acc) → Same F F' → R B X.K F' σ H' G M' → Q' (.ref L) H') :
    tLc (WIt X tg iter) (gTg X.K t) (WTb X scope ifs) (WEb X scope elt) (own.map (·.2)) σ H Q' := by
  refine h F σ H _ r fun J H1 F1 ds M1 lc s1 r1 w => ?_
  intro L hL
  obtain ⟨I, i0, turn, fn⟩ := lc L (r1.freeM hL)
  refine ⟨fun i m H' => m = ds.length - i ∧ i ≤ ds.length ∧ ∃ F' acc M', Same F1 F' ∧ R B X.K F' σ H' G M' ∧ M' L = some (.lst acc) ∧ I i acc M', ⟨_, rfl, Nat.zero_le _, F1, [], _, Same.refl F1, r1.newCell (o := .lst []) hL ⟨[], upd_same, .nil⟩, mupd_same, i0⟩, ?_⟩
  rintro i m H' ⟨rfl, hi, F', acc, M', s', r', hM, hI⟩
  by_cases hlt : i < ds.length
  · refine .inr ⟨w.goes i H' hlt (s'.trans r'.ex), fun H2 => ∃ F' acc M', Same F1 F' ∧ R B X.K F' σ H2 G M' ∧ M' L = some (.lst acc) ∧ I (i + 1) acc M', fun H2 z => ⟨ds.length - (i + 1), by omega, rfl, hlt, z⟩, fun x H2 y => ?_⟩
    obtain ⟨d, hd, yy⟩ := w.yields i H' x H2 hlt (s'.trans r'.ex) y
    obtain ⟨F2, s2, r2, p2⟩ := yy B F' σ G M' s' r'
    have tt := turn i d acc M' hd hI hM
    have main : ∀ (vs : List V) (dvs : List D), RpAll X.K F2 vs dvs → (Bk X scope fun X' => TXs B X' ifs (gsetAll (gwipe G (own.map (·.2))) t.slots dvs) M' fun b M3 =>
        if b = true then Bk X scope fun X2 => EX B X2 elt (gsetAll (gwipe G (own.map (·.2))) t.slots dvs) M3 fun y M4 => M4 L = some (.lst acc) ∧ acc.length < sizeLine ∧ I (i + 1) (acc ++ [y]) (mupd M4 L (.lst (acc ++ [y])))
        else M3 L = some (.lst acc) ∧ I (i + 1) acc M3) →
        L2.wipe (FL.setAll (L2.wipe σ (own.map (·.2))) t.slots vs) (own.map (·.2)) = L2.wipe σ (own.map (·.2)) ∧ WTb X scope ifs (FL.setAll (L2.wipe σ (own.map (·.2))) t.slots vs) H2 fun b H3 =>
          if b = true then WEb X scope elt (FL.setAll (L2.wipe σ (own.map (·.2))) t.slots vs) H3 fun y H4 => ∃ acc, H4 L = some (.lst acc) ∧ acc.length < sizeLine ∧ (∃ F' acc' M', Same F1 F' ∧ R B X.K F' σ (upd H4 L (.lst (acc ++ [y]))) G M' ∧ M' L = some (.lst acc') ∧ I (i + 1) acc' M')
          else ∃ F' acc M', Same F1 F' ∧ R B X.K F' σ H3 G M' ∧ M' L = some (.lst acc) ∧ I (i + 1) acc M' := by
      intro vs dvs pv hb
      refine ⟨wipe_setAll ht, fun s0 H0 C cl fp => ?_⟩
      have rw0 : R B X.K F2 (FL.setAll (L2.wipe σ (own.map (·.2))) t.slots vs) H2 (gsetAll (gwipe G (own.map (·.2))) t.slots dvs) M' := R.setAll (R.wipe r2 (own.map (·.2))) pv
      refine txs_ok (X := X.blk s0 H0 scope (compEnvC scope cl C X.env) fp) (hb s0 H0 C cl fp) rw0 fun b H3 F3 M3 q3 s3 r3 => ?_
      have back : ∀ {Hx Fx : Hp} {Mx : Mem}, Same F2 Fx → R B X.K Fx (FL.setAll (L2.wipe σ (own.map (·.2))) t.slots vs) Hx (gsetAll (gwipe G (own.map (·.2))) t.slots dvs) Mx → R B X.K Fx σ Hx G Mx := fun sx rx => ⟨r2.slots.mono sx, rx.ex, rx.mem, rx.bf, rx.bk⟩
      cases b with
      | true =>
        rw [if_pos rfl] at q3 ⊢
        intro s5 H5 C5 cl5 fp5
        refine q3 s5 H5 C5 cl5 fp5 F3 _ H3 _ r3 fun y H4 F4 d4 M4 ⟨m4, l4, i4⟩ s4 r4 p4 => ?_
        obtain ⟨_, xs, hx, rx⟩ := r4.mem L _ m4
        refine ⟨xs, hx, by rw [rx.length]; exact l4, F4, acc ++ [d4], _, ((s'.trans s2).trans s3).trans s4, ?_, mupd_same, i4⟩
        exact (back (s3.trans s4) r4).write m4 ⟨_, upd_same, rx.append (.cons p4 .nil)⟩
      | false =>
        rw [if_neg Bool.false_ne_true] at q3 ⊢
        exact ⟨F3, acc, M3, (s'.trans s2).trans s3, back s3 r3, q3.1, q3.2⟩
    cases t with
    | inl j => exact main [x] [d] (.cons p2 .nil) tt
    | inr js =>
      obtain ⟨dvs, e, hl, hb⟩ := tt
      subst e
      cases p2 with
      | @tup a xs _ hq ra => exact ⟨a, xs, rfl, sq_same r2.ex hq, by rw [ra.length, hl], gNs_of (by rw [ra.length, hl]) (main xs dvs ra hb)⟩
  · have e : i = ds.length := by omega
    subst e
    exact .inl ⟨w.stops H' (s'.trans r'.ex), k L acc H' F' M' (fn acc M' hI hM) hM (s1.trans s') r'⟩

theorem pg_tg1 {X' : Cx} {x : Str} {i : Nat} (h : Lc X' i x) : PG X' (.Name x pos) (gTg X'.K (.inl i)) := pg_name h.nd h.n h.l h.f
/-- a comprehension, its list frozen -/
theorem ex_lc {scope : Scope} {own : List (Str × Nat)} {t : Tg} {ifs : List Expr} (hc : X.calm = true) (hN : X.N.Nodup) (ok : BlkOk X.N X.env.scope scope own) (ht : ∀ i ∈ t.slots, i ∈ own.map (·.2))
    (hg : Bk X scope fun X' => PG X' tg (gTg X.K t)) (hs : ∀ x, foldedSetIterable iter X.env x = pure x)
    (h : LX B X tg iter G M fun ds M1 => LcX B X scope (own.map (·.2)) t ifs elt G ds M1 fun L acc M' => Q (.lst acc) (mdel M' L)) : EX B X (.ListComp elt [⟨tg, iter, ifs, 0⟩] scope pos) G M Q := fun F σ H Q' r k =>
  WE.of (pe_lc hc hN pi_wi ok hg pts_wtb pe_web hs) (lc_data ht r h fun L acc H' F' M' q hm s' r' => by
    obtain ⟨F2, s2, r2, p2⟩ := r'.freeze hm
    exact k _ H' F2 _ _ q (s'.trans s2) r2 p2)
/-- .. its list a cell -/
theorem ex_lcM {scope : Scope} {own : List (Str × Nat)} {t : Tg} {ifs : List Expr} (hc : X.calm = true) (hN : X.N.Nodup) (ok : BlkOk X.N X.env.scope scope own) (ht : ∀ i ∈ t.slots, i ∈ own.map (·.2))
    (hg : Bk X scope fun X' => PG X' tg (gTg X.K t)) (hs : ∀ x, foldedSetIterable iter X.env x = pure x)
    (h : LX B X tg iter G M fun ds M1 => LcX B X scope (own.map (·.2)) t ifs elt G ds M1 fun L acc M' => Q (.ref L) M') : EX B X (.ListComp elt [⟨tg, iter, ifs, 0⟩] scope pos) G M Q := fun F σ H Q' r k =>
  WE.of (pe_lc hc hN pi_wi ok hg pts_wtb pe_web hs) (lc_data ht r h fun L acc H' F' M' q hm s' r' => k _ H' F' _ _ q s' r' (.ref L))
/-- name = a comprehension -/
theorem sx_setLc {i : Nat} {y : Str} {py spos : Pos} {scope : Scope} {own : List (Str × Nat)} {t : Tg} {ifs : List Expr} (hc : X.calm = true) (hN : X.N.Nodup) (hy : X.N[i]? = some y) (hyl : X.env.scope.names.lookup y = some .local)
    (hsw : swapsWith (.ListComp elt [⟨tg, iter, ifs, 0⟩] scope pos) (some (.Name y py)) spos.line X.env = pure true) (ok : BlkOk X.N X.env.scope scope own) (ht : ∀ i ∈ t.slots, i ∈ own.map (·.2))
    (hg : Bk X scope fun X' => PG X' tg (gTg X.K t)) (hs : ∀ x, foldedSetIterable iter X.env x = pure x)
    (h : LX B X tg iter G M fun ds M1 => LcX B X scope (own.map (·.2)) t ifs elt G ds M1 fun L acc M' => E.nx (G.set i (some (.lst acc))) (mdel M' L)) : SX B X (.Assign [.Name y py] (.ListComp elt [⟨tg, iter, ifs, 0⟩] scope pos) spos) E G M := fun F σ H D' r k =>
  WS.of (ps_setLc hc hN hy hyl hsw pi_wi ok hg pts_wtb pe_web hs) (lc_data ht r h fun L acc H' F' M' q hm s' r' => by
    obtain ⟨F2, s2, r2, p2⟩ := r'.freeze hm
    exact k.nx _ H' F2 _ _ q (s'.trans s2) (R.set r2 p2))
theorem sx_setLcM {i : Nat} {y : Str} {py spos : Pos} {scope : Scope} {own : List (Str × Nat)} {t : Tg} {ifs : List Expr} (hc : X.calm = true) (hN : X.N.Nodup) (hy : X.N[i]? = some y) (hyl : X.env.scope.names.lookup y = some .local)
    (hsw : swapsWith (.ListComp elt [⟨tg, iter, ifs, 0⟩] scope pos) (some (.Name y py)) spos.line X.env = pure true) (ok : BlkOk X.N X.env.scope scope own) (ht : ∀ i ∈ t.slots, i ∈ own.map (·.2))
    (hg : Bk X scope fun X' => PG X' tg (gTg X.K t)) (hs : ∀ x, foldedSetIterable iter X.env x = pure x)
    (h : LX B X tg iter G M fun ds M1 => LcX B X scope (own.map (·.2)) t ifs elt G ds M1 fun L acc M' => E.nx (G.set i (some (.ref L))) M') : SX B X (.Assign [.Name y py] (.ListComp elt [⟨tg, iter, ifs, 0⟩] scope pos) spos) E G M := fun F σ H D' r k =>
  WS.of (ps_setLc hc hN hy hyl hsw pi_wi ok hg pts_wtb pe_web hs) (lc_data ht r h fun L acc H' F' M' q hm s' r' => k.nx _ H' F' _ _ q s' (R.set r' (.ref L)))
/-- a comprehension that changes no cell: f tells what an item comes to -/
theorem lc_pure {scope : Scope} {own : List Nat} {t : Tg} {ifs : List Expr} {ds : List D} {fin : List D → Mem → Prop} (f : D → Option D) (hl : ds.length < sizeLine)
    (h : ∀ (i : Nat) (d : D) (M' : Mem), ds[i]? = some d → (∀ a o, M a = some o → M' a = some o) → TgD t d fun dvs => Bk X scope fun X' => TXs B X' ifs (gsetAll (gwipe G own) t.slots dvs) M' fun b M3 =>
      if b = true then Bk X scope fun X2 => EX B X2 elt (gsetAll (gwipe G own) t.slots dvs) M3 fun y M4 => M4 = M' ∧ f d = some y else M3 = M' ∧ f d = none)
    (q : fin (ds.filterMap f) M) : LcX B X scope own t ifs elt G ds M fun L acc M' => fin acc (mdel M' L) := by
  intro L hL
  refine ⟨fun i acc M' => acc = (ds.take i).filterMap f ∧ M' = mupd M L (.lst acc), ⟨rfl, rfl⟩, ?_, ?_⟩
  · rintro i d acc M' hd ⟨ea, eM⟩ hM
    have hle : ∀ a o, M a = some o → M' a = some o := fun a o e => by rw [eM, mupd_ne (mne e hL)]; exact e
    have tk : (ds.take (i + 1)).filterMap f = (ds.take i).filterMap f ++ (f d).toList := by
      rw [List.take_add_one, hd, List.filterMap_append]
      cases e : f d <;> simp [e]
    have ln : acc.length < sizeLine := by
      have h1 : ((ds.take i).filterMap f).length ≤ (ds.take i).length := List.length_filterMap_le f _
      have h2 : (ds.take i).length ≤ ds.length := by rw [List.length_take]; omega
      rw [ea]; omega
    have step : ∀ dvs, (Bk X scope fun X' => TXs B X' ifs (gsetAll (gwipe G own) t.slots dvs) M' fun b M3 =>
        if b = true then Bk X scope fun X2 => EX B X2 elt (gsetAll (gwipe G own) t.slots dvs) M3 fun y M4 => M4 = M' ∧ f d = some y else M3 = M' ∧ f d = none) →
        Bk X scope fun X' => TXs B X' ifs (gsetAll (gwipe G own) t.slots dvs) M' fun b M3 =>
          if b = true then Bk X scope fun X2 => EX B X2 elt (gsetAll (gwipe G own) t.slots dvs) M3 fun y M4 => M4 L = some (.lst acc) ∧ acc.length < sizeLine ∧ (acc ++ [y] = (ds.take (i + 1)).filterMap f ∧ mupd M4 L (.lst (acc ++ [y])) = mupd M L (.lst (acc ++ [y])))
          else M3 L = some (.lst acc) ∧ (acc = (ds.take (i + 1)).filterMap f ∧ M3 = mupd M L (.lst acc)) := by
      intro dvs hb s0 H0 C cl fp
      have post : ∀ (b : Bool) (M3 : Mem), (if b = true then Bk X scope fun X2 => EX B X2 elt (gsetAll (gwipe G own) t.slots dvs) M3 fun y M4 => M4 = M' ∧ f d = some y else M3 = M' ∧ f d = none) →
          if b = true then Bk X scope fun X2 => EX B X2 elt (gsetAll (gwipe G own) t.slots dvs) M3 fun y M4 => M4 L = some (.lst acc) ∧ acc.length < sizeLine ∧ (acc ++ [y] = (ds.take (i + 1)).filterMap f ∧ mupd M4 L (.lst (acc ++ [y])) = mupd M L (.lst (acc ++ [y])))
          else M3 L = some (.lst acc) ∧ (acc = (ds.take (i + 1)).filterMap f ∧ M3 = mupd M L (.lst acc)) := fun b M3 z =>
        ite_mono z (fun z s1 H1 C1 cl1 fp1 => (z s1 H1 C1 cl1 fp1).imp fun y M4 ⟨e4, ef⟩ => by
          subst e4
          refine ⟨hM, ln, ?_, ?_⟩
          · rw [tk, ef, ← ea]; rfl
          · rw [eM, mupd_mupd]) fun ⟨e3, ef⟩ => by
          subst e3
          refine ⟨hM, ?_, eM⟩
          rw [tk, ef, ← ea]; simp
      have z := hb s0 H0 C cl fp
      match ifs, z with
      | [], z => exact post true M' z
      | [c], z => exact TX.imp z post
    have hh := h i d M' hd hle
    cases t with
    | inl j => exact step [d] hh
    | inr js =>
      obtain ⟨dvs, e, hl', hb⟩ := hh
      exact ⟨dvs, e, hl', step dvs hb⟩
  · rintro acc M' ⟨ea, eM⟩ hM
    rw [List.take_length] at ea
    rw [eM, mdel_mupd hL, ea]
    exact q
end
end FL

namespace FL
open PySem PySem.Spec PyProof.Rows L2

/-- a promise over data: arguments, cells, what is wanted of the answer and the cells -/
abbrev DSp := List D → Mem → (D → Mem → Prop) → Prop
def lift (K : PySem.W.Frag) (sp : DSp) : Sp := fun vs H Q _ => ∃ F ds M Qd, RpAll K F vs ds ∧ Same F H ∧ MemOk K F H M ∧ sp ds M Qd ∧ ∀ d M', Qd d M' → ∀ v H' F', Same F F' → Kp M H M' H' → Same F' H' → MemOk K F' H' M' → Rp K F' v d → Q v H'
/-- a def of the module, by its name -/
structure Dfn (P : Program) (w : World) (K : PySem.W.Frag) (mg : Str → Option Value) (base : Heap) (k : Nat) (x : Str) (sp : DSp) : Prop where
  ex : ∃ (f : Addr) (fd : FuncData) (ps : List Str), FnOk P w K mg base CX0 k f fd ps (lift K sp) ∧ mg x = some (.ref f) ∧ PySem.W.keepIn K (.ref f) = true ∧ Binds K fd ps []
section
variable {B : Bs} {X : Cx} {a b c e o tg iter elt : Expr} {es : List Expr} {G G' : Sl} {M M' : Mem} {Q : D → Mem → Prop} {E : En} {pos p pos' apos : Pos} {F F1 : Hp} {σ : L2.St} {k : Nat} {x m : Str} {sp : DSp}
theorem lift_use {H1 : Hp} {vs : List V} {ds : List D} {Q' : VK} {E0' : XK} (r1 : R B X.K F1 σ H1 G M) (p1 : RpAll X.K F1 vs ds) (q : sp ds M Q) (kk : KE B X F1 σ G Q Q') : lift X.K sp vs H1 Q' E0' :=
  ⟨F1, ds, M, Q, p1, r1.ex, r1.mem, q, fun d M' qd v H' F' s' k' e' m' rp => kk v H' F' d M' qd s' ⟨r1.slots.mono s', e', m', r1.bf.trans s', r1.bk.trans k'⟩ rp⟩
theorem ex_call (c : Dfn X.prog X.w X.K X.mg X.base k x sp) (hr : Room k X.A) (hg : Gl X x) (hdb : (x == ("__debug__" : Str)) = false)
    (he : starEach (e :: es) X.env = (false, eval e X.env) :: starEach es X.env) (hpl : (backTo pos (starEach es X.env)).any (·.1) = false)
    (h : AX B X (e :: es) G M fun ds M1 => sp ds M1 Q) : EX B X (.Call (.Name x p) (e :: es) [] pos) G M Q := fun F σ H Q' r kk => by
  obtain ⟨f, fd, ps, Fo, mgx, kp, bd⟩ := c.ex
  refine WE.of (pe_call Fo hr hg mgx kp bd .nil pass0 pa_wa hdb he hpl) (h F σ H _ r fun vs H1 F1 ds M1 q1 s1 r1 p1 => ?_)
  rw [List.append_nil]
  exact lift_use r1 p1 q1 (kk.mono s1)
theorem ex_call0 (c : Dfn X.prog X.w X.K X.mg X.base k x sp) (hr : Room k X.A) (hg : Gl X x) (hdb : (x == ("__debug__" : Str)) = false)
    (h : sp [] M Q) : EX B X (.Call (.Name x p) [] [] pos) G M Q := fun F σ H Q' r kk => by
  obtain ⟨f, fd, ps, Fo, mgx, kp, bd⟩ := c.ex
  exact WE.of (pe_call0 Fo hr hg mgx kp bd .nil pass0 hdb) (lift_use (vs := [] ++ []) (E0' := E0) r .nil h kk)

/-! ### a def's body -/
def startD (N : List Str) (ds : List D) : Sl := ds.map some ++ List.replicate (N.length - ds.length) none
theorem start_ok {K : PySem.W.Frag} {N : List Str} {vs : List V} {ds : List D} (h : RpAll K F vs ds) : SlotsOk K F (L2.start N vs) (startD N ds) := by
  refine ⟨by unfold L2.start startD; simp [h.length], fun i d q => ?_⟩
  unfold startD at q
  unfold L2.start
  by_cases hi : i < ds.length
  · rw [List.getElem?_append_left (by simpa using hi), List.getElem?_map] at q
    rw [List.getElem?_append_left (by simpa [h.length] using hi), List.getElem?_map]
    cases e : ds[i]? with
    | none => rw [e] at q; cases q
    | some d' =>
      rw [e] at q
      have e2 : d' = d := by simpa using q
      subst e2
      obtain ⟨v, hv, rv⟩ := h.get e
      exact ⟨v, by rw [hv]; rfl, rv⟩
  · rw [List.getElem?_append_right (by simpa using hi)] at q
    rw [List.getElem?_replicate] at q
    split at q <;> cases q
theorem fun_ok {P : Program} {w : World} {K : PySem.W.Frag} {mg : Str → Option Value} {base : Heap} {x qual : Str} {st : Stmt} {f : Addr} {fd : FuncData} {N ps : List Str} {k : Nat} {sp : DSp} (Fn : Fun K x qual st f fd) (S : FnScope N ps (defScope st))
    (len : ∀ ds M Q, sp ds M Q → ds.length = ps.length)
    (body : ∀ (cdv : Value) (A : Around) (outer : List Env) (s : Shared) (H : Hp) (E : XK), Room k (A.deeper (envOfC qual (defScope st) s.heap.objs.size f cdv)) → ∀ ds M Q, sp ds M Q → ∀ B : Bs,
      SXs B (cxOf CX0 P w K mg base N qual (defScope st) f cdv A outer s H E).nox (defBody st) (En.df Q) (startD N ds) M) : FnOk P w K mg base CX0 (k + 1) f fd ps (lift K sp) := by
  refine Fn.ok S (fun vs H Q E ⟨F, ds, M, Qd, p, _, _, h, _⟩ => by rw [p.length]; exact len ds M Qd h) fun cdv A outer s H vs Q E hr ⟨F, ds, M, Qd, p, ex, me, h, kk⟩ => ?_
  refine ⟨_, pss_wss, body cdv A outer s H E hr ds M Qd h ⟨F, M, H⟩ F _ H _ ⟨start_ok p, ex, me, Same.refl F, Kp.refl M H⟩ ⟨?_, ?_, ?_, ?_⟩⟩
  · exact fun σ' H' F' G' M' q s' r' => kk .non M' q .non H' F' s' r'.bk r'.ex r'.mem .non
  · exact fun v H' F' d M' q s' ⟨_, _, r'⟩ rp => kk d M' q v H' F' s' r'.bk r'.ex r'.mem rp
  · exact fun _ _ _ _ _ q => False.elim q
  · exact fun _ _ _ _ _ q => False.elim q

/-! ### built-ins by name -/
/-- a built-in function or class, by its name -/
structure Blt (X : Cx) (x : Str) (f : Value) : Prop where
  g : Gl X x
  m : X.mg x = none
  v : bootBuiltins x = some f
  n : x ≠ "__name__"
  d : (x == ("__debug__" : Str)) = false
theorem ex_callB {id : String} (c : Blt X x (.builtin id)) (he : starEach (e :: es) X.env = (false, eval e X.env) :: starEach es X.env) (hpl : (backTo pos (starEach es X.env)).any (·.1) = false)
    (h : AX B X (e :: es) G M fun ds M1 => BX B X (.builtin id) ds G M1 Q) : EX B X (.Call (.Name x p) (e :: es) [] pos) G M Q := fun F σ H Q' r kk =>
  WE.of (pe_callB call_wc c.g c.m c.v pa_wa c.n c.d he hpl) (h F σ H _ r fun vs H1 F1 ds M1 q1 s1 r1 p1 => q1 F1 σ H1 Q' vs r1 p1 (kk.mono s1))
theorem ex_callTy {T : String} (c : Blt X x (.type T)) (he : starEach (e :: es) X.env = (false, eval e X.env) :: starEach es X.env) (hpl : (backTo pos (starEach es X.env)).any (·.1) = false)
    (h : AX B X (e :: es) G M fun ds M1 => BX B X (.type T) ds G M1 Q) : EX B X (.Call (.Name x p) (e :: es) [] pos) G M Q := fun F σ H Q' r kk =>
  WE.of (pe_callTy call_wc c.g c.m c.v pa_wa c.n c.d he hpl) (h F σ H _ r fun vs H1 F1 ds M1 q1 s1 r1 p1 => q1 F1 σ H1 Q' vs r1 p1 (kk.mono s1))
/-- a built-in as a value -/
theorem ex_ty {T : String} (c : Blt X x (.type T)) (q : Q (.ty T) M) : EX B X (.Name x pos) G M Q := fun F σ H Q' r kk =>
  WE.of (pe_bltn c.g c.m c.v (v := .ty T) rfl c.n c.d) (kk.at r q (.ty T))
theorem rp1 {K : PySem.W.Frag} {vs : List V} {d : D} (h : RpAll K F vs [d]) : ∃ v, vs = [v] ∧ Rp K F v d := by
  cases h with
  | cons p t => cases t; exact ⟨_, rfl, p⟩
theorem rp2 {K : PySem.W.Frag} {vs : List V} {d d2 : D} (h : RpAll K F vs [d, d2]) : ∃ v v2, vs = [v, v2] ∧ Rp K F v d ∧ Rp K F v2 d2 := by
  cases h with
  | cons p t =>
    obtain ⟨v, e, q⟩ := rp1 t
    subst e
    exact ⟨_, v, rfl, p, q⟩
theorem bx_lenL {ds : List D} (q : Q (.int (ds.length : Nat)) M) : BX B X (.builtin "len") [.lst ds] G M Q := fun F σ H Q' vs r pa kk => by
  obtain ⟨v, rfl, rp⟩ := rp1 pa
  cases rp with
  | @lst a xs _ hs rs => exact WC.of call_len_seq ⟨a, xs, rfl, .inl (SqL.of (r.ex _ _ hs)), by rw [rs.length]; exact kk.at r q (.int _)⟩
theorem bx_lenF {ds : List D} (q : Q (.int (ds.length : Nat)) M) : BX B X (.builtin "len") [.fzl ds] G M Q := fun F σ H Q' vs r pa kk => by
  obtain ⟨v, rfl, rp⟩ := rp1 pa
  cases rp with
  | @fzl a xs _ hs rs => exact WC.of call_len_seq ⟨a, xs, rfl, .inl (r.ex.seq hs), by rw [rs.length]; exact kk.at r q (.int _)⟩
theorem bx_lenT {ds : List D} (q : Q (.int (ds.length : Nat)) M) : BX B X (.builtin "len") [.tup ds] G M Q := fun F σ H Q' vs r pa kk => by
  obtain ⟨v, rfl, rp⟩ := rp1 pa
  cases rp with
  | @tup a xs _ hs rs => exact WC.of call_len_seq ⟨a, xs, rfl, .inr (sq_same r.ex hs), by rw [rs.length]; exact kk.at r q (.int _)⟩
theorem bx_lenC {l : Addr} {ds : List D} (hm : M l = some (.lst ds)) (q : Q (.int (ds.length : Nat)) M) : BX B X (.builtin "len") [.ref l] G M Q := fun F σ H Q' vs r pa kk => by
  obtain ⟨v, rfl, rp⟩ := rp1 pa
  cases rp
  obtain ⟨_, xs, hx, rx⟩ := r.mem l _ hm
  exact WC.of call_len_seq ⟨l, xs, rfl, .inl (.inl (.inl hx)), by rw [rx.length]; exact kk.at r q (.int _)⟩
theorem bx_lenS {z : Str} (hl : z.length ≤ sizeLine) (q : Q (.int (z.length : Nat)) M) : BX B X (.builtin "len") [.str z] G M Q := fun F σ H Q' vs r pa kk => by
  obtain ⟨v, rfl, rp⟩ := rp1 pa
  cases rp
  exact WC.of call_len_str ⟨z, rfl, hl, kk.at r q (.int _)⟩
/-- the built-in type of data -/
def D.tyN : D → String
  | .non => "NoneType" | .bl _ => "bool" | .int _ => "int" | .str _ => "str" | .tup _ => "tuple" | .lst _ => "list" | .dK _ => "dict" | .dT _ => "dict" | .ty _ => "type" | .ref _ => "object" | .fzl _ => "list"
def D.tyd : D → Bool
  | .ty _ => false | .ref _ => false | .fzl _ => false | _ => true
theorem Rp.tyx {K : PySem.W.Frag} {F H : Hp} {v : V} {d : D} (e : Same F H) (r : Rp K F v d) (h : d.tyd = true) : TyX K H v (.type d.tyN) := by
  cases r with
  | non => exact .base .non
  | bl b => exact .base (.bl b)
  | int i => exact .base (.int i)
  | str x => exact .base (.str x)
  | ref a => cases h
  | ty n => cases h
  | tup hs _ =>
    rcases hs with (hs | ⟨ob, hs⟩) | ⟨ob, _, _, hk, hc, _⟩
    · exact .base (.tup (e _ _ hs))
    · exact .fTuple (e _ _ hs)
    · exact .kTuple hk hc
  | lst hs _ => exact .base (.lst (e _ _ hs))
  | fzl _ _ => cases h
  | dK hs _ => exact .base (.dK (e _ _ hs))
  | dT hs _ => exact .base (.dT (e _ _ hs))
theorem bx_isi {d : D} {T : String} {b : Bool} (hd : d.tyd = true) (hk : kitB d.tyN T = some b) (q : Q (.bl b) M) : BX B X (.builtin "isinstance") [d, .ty T] G M Q := fun F σ H Q' vs r pa kk => by
  obtain ⟨v, v2, rfl, rp, r2⟩ := rp2 pa
  cases r2
  exact WC.of call_isi ⟨v, .ty T, _, _, b, rfl, .ty T, rp.tyx r.ex hd, kit_ty hk, kk.at r q (.bl b)⟩
/-- the classes of a tuple -/
def tyNs : List D → Option (List String)
  | [] => some []
  | .ty T :: r => (tyNs r).map (T :: ·)
  | _ => none
def kitBs (a : String) : List String → Option Bool
  | [] => some false
  | T :: r => match kitB a T with
    | some true => some true
    | some false => kitBs a r
    | none => none
theorem tyNs_cls {K : PySem.W.Frag} : ∀ {ds : List D} {vs : List V} {Ts : List String}, tyNs ds = some Ts → RpAll K F vs ds → Paired ClsV vs (Ts.map Value.type)
  | [], _, Ts, h, p => by cases p; cases h; exact .nil
  | .ty T :: ds, _, Ts, h, .cons p r => by
    cases p
    unfold tyNs at h
    cases e : tyNs ds with
    | none => rw [e] at h; cases h
    | some Us =>
      rw [e] at h
      cases h
      exact .cons (.ty T) (tyNs_cls e r)
theorem kitBs_any {K : PySem.W.Frag} {a : String} {b : Bool} : ∀ {Ts : List String}, kitBs a Ts = some b → PySem.W.kitAny K (.type a) (Ts.map Value.type) = some b
  | [], h => by cases h; exact kitAny_nil
  | T :: Ts, h => by
    unfold kitBs at h
    split at h
    · rename_i e
      cases h
      exact kitAny_cons (kit_ty e) (fun z => nomatch z) (fun _ => rfl)
    · rename_i e
      exact kitAny_cons (kit_ty e) (fun _ => kitBs_any h) (fun z => nomatch z)
    · cases h
theorem call_isiS : CallR X (.builtin "isinstance") (fun xs H Q => ∃ (x : V) (tp : Addr) (cs : List V) (t : Value) (us : List Value) (b : Bool), xs = [x, .ref tp] ∧ SqT X.K H tp cs ∧ Paired ClsV cs us ∧ TyX X.K H x t ∧ PySem.W.kitAny X.K t us = some b ∧ Q (.bl b) H) := by
  intro pins s σ H xs us Q I r h
  obtain ⟨x, tp, cs, t, ws, b, rfl, hT, k, ty, e, q⟩ := h
  obtain ⟨u1, u2, rfl, r1, r2⟩ := vals2 r
  cases (show u2 = Value.ref tp from r2)
  obtain ⟨P, Z, p, hx⟩ := kit_of I r1 ty
  obtain ⟨its, rv, ⟨o, h1, h2, n, h3⟩, _⟩ := I.tuple hT
  have e3 := ClsV.all k rv
  subst e3
  obtain ⟨oc, od, dt, sl⟩ := o
  simp only at h2 h3
  subst h2 h3
  exact PySem.W.kia_tup Z I.kIn p h1 e hx fun tk => ⟨.bl b, H, I.tok tk, rfl, q⟩
theorem bx_isiT {d : D} {ts : List D} {Ts : List String} {b : Bool} (hd : d.tyd = true) (ht : tyNs ts = some Ts) (hk : kitBs d.tyN Ts = some b) (q : Q (.bl b) M) : BX B X (.builtin "isinstance") [d, .tup ts] G M Q := fun F σ H Q' vs r pa kk => by
  obtain ⟨v, v2, rfl, rp, r2⟩ := rp2 pa
  cases r2 with
  | @tup a xs _ hs rs => exact WC.of call_isiS ⟨v, a, xs, _, _, b, rfl, sq_same r.ex hs, tyNs_cls ht rs, rp.tyx r.ex hd, kitBs_any hk, kk.at r q (.bl b)⟩
end
end FL

namespace FL
open PySem PySem.Spec PyProof.Rows L2
def atB (N : List Str) (sc : Scope) (i : Nat) (x : Str) : Bool := decide (N[i]? = some x) && ((match sc.names.lookup x with | some .local => true | some .cell => true | _ => false) && (!(x == ("__debug__" : Str)) && !(x == ("__classdict__" : Str))))
section
variable {X : Cx} {N : List Str} {sc : Scope} {i : Nat} {x : Str}
theorem atB_parts (h : atB N sc i x = true) : N[i]? = some x ∧ (sc.names.lookup x = some .local ∨ sc.names.lookup x = some .cell) ∧ (x == ("__debug__" : Str)) = false ∧ (x == ("__classdict__" : Str)) = false := by
  unfold atB at h
  obtain ⟨h1, h⟩ := Bool.and_eq_true_iff.mp h
  obtain ⟨h2, h⟩ := Bool.and_eq_true_iff.mp h
  obtain ⟨h3, h4⟩ := Bool.and_eq_true_iff.mp h
  refine ⟨of_decide_eq_true h1, ?_, by simpa using h3, by simpa using h4⟩
  split at h2
  · left; assumption
  · right; assumption
  · cases h2
theorem At.of (hN : X.N = N) (hs : X.env.scope = sc) (h : atB N sc i x = true) : At X i x := by
  obtain ⟨h1, h2, h3, h4⟩ := atB_parts h
  refine ⟨by rw [hN]; exact h1, ?_, h3, h4⟩
  rw [hs]
  rcases h2 with h2 | h2
  · exact .inl h2
  · exact .inr (.inl h2)
theorem Lc.of (nd : N.Nodup) (hN : X.N = N) (hs : X.env.scope = sc) (hf : X.fn x = true ∨ X.env.scope.names.lookup x = some .local) (h : atB N sc i x = true) : Lc X i x := by
  obtain ⟨h1, h2, h3, h4⟩ := atB_parts h
  refine ⟨by rw [hN]; exact nd, by rw [hN]; exact h1, ?_, hf⟩
  rw [hs]
  exact h2
theorem At.b (hN : X.N[i]? = some x) (hv : Vis X.env.scope x) (hd : (x == ("__debug__" : Str)) = false := by decide) (hc : (x == ("__classdict__" : Str)) = false := by decide) : At X i x := ⟨hN, hv, hd, hc⟩
theorem Gb.of {d : D} {u : Value} {v : V} (g : Gl X x) (m : X.mg x = some u) (r : RelV v u) (h : ∀ F, Rp X.K F v d) (hd : (x == ("__debug__" : Str)) = false := by decide) : Gb X x d := ⟨g, ⟨u, v, m, r, h⟩, hd⟩
end
/-- a constant of the module -/
def Cst (K : PySem.W.Frag) (mg : Str → Option Value) (x : Str) (d : D) : Prop := ∃ u v, mg x = some u ∧ RelV v u ∧ ∀ F, Rp K F v d
theorem Gb.ofC {X : Cx} {x : Str} {d : D} (g : Gl X x) (h : Cst X.K X.mg x d) (hd : (x == ("__debug__" : Str)) = false := by decide) : Gb X x d := ⟨g, h, hd⟩
theorem Blt.blk {X : Cx} {x : Str} {f : Value} {s : Shared} {H : Hp} {scope : Scope} {cenv : Env} {fp : List Addr} (h : Blt X x f) (g : Gl (X.blk s H scope cenv fp) x) : Blt (X.blk s H scope cenv fp) x f := ⟨g, h.m, h.v, h.n, h.d⟩
theorem Gb.blk {X : Cx} {x : Str} {d : D} {s : Shared} {H : Hp} {scope : Scope} {cenv : Env} {fp : List Addr} (h : Gb X x d) (g : Gl (X.blk s H scope cenv fp) x) : Gb (X.blk s H scope cenv fp) x d := ⟨g, h.m, h.d⟩
theorem ite_dec {p A B : Prop} [Decidable p] (h1 : p → A) (h2 : ¬ p → B) : if decide p = true then A else B := by
  by_cases h : p
  · rw [decide_eq_true h]; exact iteT (h1 h)
  · rw [decide_eq_false h]; exact iteF (h2 h)
theorem ite_ndec {p A B : Prop} [Decidable p] (h1 : ¬ p → A) (h2 : p → B) : if (!decide p) = true then A else B := by
  by_cases h : p
  · rw [decide_eq_true h]; exact iteF (h2 h)
  · rw [decide_eq_false h]; exact iteT (h1 h)
theorem ite_b {b : Bool} {A B : Prop} (h1 : b = true → A) (h2 : b = false → B) : if b = true then A else B := by
  cases b with
  | true => exact iteT (h1 rfl)
  | false => exact iteF (h2 rfl)
theorem ite_nb {b : Bool} {A B : Prop} (h1 : b = false → A) (h2 : b = true → B) : if (!b) = true then A else B := by
  cases b with
  | true => exact iteF (h2 rfl)
  | false => exact iteT (h1 rfl)
theorem iteT' {c : Bool} {A B : Prop} (e : c = true) (h : A) : if c = true then A else B := by rw [if_pos e]; exact h
theorem iteF' {c : Bool} {A B : Prop} (e : c = false) (h : B) : if c = true then A else B := by rw [e]; exact iteF h
theorem asB_bl {Q : Bool → Mem → Prop} {b : Bool} {M : Mem} (h : Q b M) : AsB Q (.bl b) M := h
theorem ixN_nat {n j : Nat} (h : j < n) : ixN n (j : Int) = some j := by
  unfold ixN
  rw [if_pos (by omega), if_pos (by omega)]
  rfl
theorem atI_of {ds : List D} {i : Int} {j : Nat} {d : D} (e : i = (j : Int)) (h : ds[j]? = some d) : atI ds i = some d := by rw [e]; exact atI_nat h
end FL

namespace FL
open PySem PySem.Spec PyProof.Rows L2
section
variable {B : Bs} {X : Cx} {a b c e o tg iter elt : Expr} {es : List Expr} {G G' : Sl} {M M' : Mem} {Q : D → Mem → Prop} {E : En} {pos p pos' apos : Pos} {F F1 : Hp} {σ : L2.St} {k : Nat} {x y : Str} {i : Int}

/-! ### flat data -/
def D.toV : D → V
  | .bl b => .bl b | .int i => .int i | .str x => .str x | _ => .non
def D.flat : D → Bool
  | .non => true | .bl _ => true | .int _ => true | .str _ => true | _ => false
theorem Rp.flat {K : PySem.W.Frag} {v : V} {d : D} (r : Rp K F v d) (h : d.flat = true) : v = d.toV ∧ flatV d.toV = true := by
  cases r <;> first | exact ⟨rfl, rfl⟩ | cases h
theorem RpAll.flat {K : PySem.W.Frag} : ∀ {vs : List V} {ds : List D}, RpAll K F vs ds → ds.all D.flat = true → vs = ds.map D.toV ∧ (ds.map D.toV).all flatV = true
  | _, _, .nil, _ => ⟨rfl, rfl⟩
  | _, _, .cons r t, h => by
    obtain ⟨h1, h2⟩ := Bool.and_eq_true_iff.mp (show (_ && _) = true from h)
    obtain ⟨e1, f1⟩ := r.flat h1
    obtain ⟨e2, f2⟩ := RpAll.flat t h2
    refine ⟨by rw [e1, e2]; rfl, ?_⟩
    show (_ && _) = true
    rw [f1]; exact f2
def inD (d : D) (ds : List D) : Bool := inV d.toV (ds.map D.toV)
theorem in_core {neg : Bool} {op : CmpOp} {d : D} {ds : List D} {v : V} {pa : Addr} {H : Hp} {Q' : VK} (ho : OpR X (compareOp op) (rIn X.K neg)) (r : R B X.K F σ H G M) (p1 : Rp X.K F v d) (hf : d.flat = true) (ha : ds.all D.flat = true) (xs : List V) (hs : SqL X.K H pa xs ∨ SqT X.K H pa xs) (rs : RpAll X.K F xs ds)
    (q : Q (.bl (if neg then !inD d ds else inD d ds)) M) (kk : KE B X F σ G Q Q') : WO X (compareOp op) v (.ref pa) H Q' := by
  obtain ⟨e1, f1⟩ := p1.flat hf
  obtain ⟨e2, f2⟩ := rs.flat ha
  subst e1; subst e2
  exact WO.of ho ⟨pa, _, rfl, hs, f1, f2, kk.at r q (.bl _)⟩
theorem ox_inT {d : D} {ds : List D} (hf : d.flat = true) (ha : ds.all D.flat = true) (q : Q (.bl (inD d ds)) M) : OX B X (compareOp .In) d (.tup ds) G M Q := fun F σ H Q' v w r p1 p2 kk => by
  cases p2 with
  | @tup a xs _ hs rs => exact in_core op_in_seq r p1 hf ha xs (.inr (sq_same r.ex hs)) rs q kk
theorem ox_inL {d : D} {ds : List D} (hf : d.flat = true) (ha : ds.all D.flat = true) (q : Q (.bl (inD d ds)) M) : OX B X (compareOp .In) d (.lst ds) G M Q := fun F σ H Q' v w r p1 p2 kk => by
  cases p2 with
  | @lst a xs _ hs rs => exact in_core op_in_seq r p1 hf ha xs (.inl (SqL.of (r.ex _ _ hs))) rs q kk
theorem ox_notInT {d : D} {ds : List D} (hf : d.flat = true) (ha : ds.all D.flat = true) (q : Q (.bl (!inD d ds)) M) : OX B X (compareOp .NotIn) d (.tup ds) G M Q := fun F σ H Q' v w r p1 p2 kk => by
  cases p2 with
  | @tup a xs _ hs rs => exact in_core op_notIn_seq r p1 hf ha xs (.inr (sq_same r.ex hs)) rs q kk
theorem ox_notInL {d : D} {ds : List D} (hf : d.flat = true) (ha : ds.all D.flat = true) (q : Q (.bl (!inD d ds)) M) : OX B X (compareOp .NotIn) d (.lst ds) G M Q := fun F σ H Q' v w r p1 p2 kk => by
  cases p2 with
  | @lst a xs _ hs rs => exact in_core op_notIn_seq r p1 hf ha xs (.inl (SqL.of (r.ex _ _ hs))) rs q kk
theorem ox_inC {d : D} {l : Addr} {ds : List D} (hm : M l = some (.lst ds)) (hf : d.flat = true) (ha : ds.all D.flat = true) (q : Q (.bl (inD d ds)) M) : OX B X (compareOp .In) d (.ref l) G M Q := fun F σ H Q' v w r p1 p2 kk => by
  cases p2
  obtain ⟨_, xs, hx, rx⟩ := r.mem l _ hm
  exact in_core op_in_seq r p1 hf ha xs (.inl (.inl (.inl hx))) rx q kk
theorem ox_notInC {d : D} {l : Addr} {ds : List D} (hm : M l = some (.lst ds)) (hf : d.flat = true) (ha : ds.all D.flat = true) (q : Q (.bl (!inD d ds)) M) : OX B X (compareOp .NotIn) d (.ref l) G M Q := fun F σ H Q' v w r p1 p2 kk => by
  cases p2
  obtain ⟨_, xs, hx, rx⟩ := r.mem l _ hm
  exact in_core op_notIn_seq r p1 hf ha xs (.inl (.inl (.inl hx))) rx q kk
theorem str_beq_iff {x y : Str} : (x == y) = decide (x = y) := Bool.beq_eq_decide_eq x y
theorem inD_str : ∀ {xs : List Str}, inD (.str x) (xs.map D.str) = decide (x ∈ xs)
  | [] => by simp [inD, inV]
  | y :: ys => by
    have ih : inD (.str x) (ys.map D.str) = decide (x ∈ ys) := inD_str
    have e : inD (.str x) ((y :: ys).map D.str) = ((y == x) || inD (.str x) (ys.map D.str)) := rfl
    rw [e, ih, str_beq_iff]
    by_cases h : y = x
    · subst h; simp
    · have h' : ¬ x = y := fun z => h z.symm
      simp [h, h']
theorem inD_int {n : Int} : ∀ {xs : List Int}, inD (.int n) (xs.map D.int) = decide (n ∈ xs)
  | [] => by simp [inD, inV]
  | y :: ys => by
    have ih : inD (.int n) (ys.map D.int) = decide (n ∈ ys) := inD_int
    have e : inD (.int n) ((y :: ys).map D.int) = ((y == n) || inD (.int n) (ys.map D.int)) := rfl
    rw [e, ih, Bool.beq_eq_decide_eq]
    by_cases h : y = n
    · subst h; simp
    · have h' : ¬ n = y := fun z => h z.symm
      simp [h, h']
theorem flat_strs {xs : List Str} : (xs.map D.str).all D.flat = true := by simp [D.flat]
theorem flat_ints {xs : List Int} : (xs.map D.int).all D.flat = true := by simp [D.flat]
/-- one sign in a text -/
theorem ox_inS {n : Nat} (q : Q (.bl (decide (n ∈ x.cps.toList))) M) : OX B X (compareOp .In) (.str ⟨#[n]⟩) (.str x) G M Q := fun F σ H Q' v w r p1 p2 kk => by
  cases p1; cases p2; exact WO.of op_in_sign ⟨n, x, rfl, rfl, kk.at r q (.bl _)⟩
theorem ox_notInS {n : Nat} (q : Q (.bl (!decide (n ∈ x.cps.toList))) M) : OX B X (compareOp .NotIn) (.str ⟨#[n]⟩) (.str x) G M Q := fun F σ H Q' v w r p1 p2 kk => by
  cases p1; cases p2; exact WO.of op_notIn_sign ⟨n, x, rfl, rfl, kk.at r q (.bl _)⟩

/-! ### built-in names -/
theorem bb_len : bootBuiltins "len" = some (.builtin "len") := by decide +kernel
theorem bb_isinstance : bootBuiltins "isinstance" = some (.builtin "isinstance") := by decide +kernel
theorem bb_max : bootBuiltins "max" = some (.builtin "max") := by decide +kernel
theorem bb_min : bootBuiltins "min" = some (.builtin "min") := by decide +kernel
theorem bb_sorted : bootBuiltins "sorted" = some (.builtin "sorted") := by decide +kernel
theorem bb_int : bootBuiltins "int" = some (.type "int") := by decide +kernel
theorem bb_bool : bootBuiltins "bool" = some (.type "bool") := by decide +kernel
theorem bb_str : bootBuiltins "str" = some (.type "str") := by decide +kernel
theorem bb_tuple : bootBuiltins "tuple" = some (.type "tuple") := by decide +kernel
theorem bb_list : bootBuiltins "list" = some (.type "list") := by decide +kernel
theorem bb_dict : bootBuiltins "dict" = some (.type "dict") := by decide +kernel
theorem bb_set : bootBuiltins "set" = some (.type "set") := by decide +kernel
theorem bb_enumerate : bootBuiltins "enumerate" = some (.type "enumerate") := by decide +kernel
theorem bb_range : bootBuiltins "range" = some (.type "range") := by decide +kernel
/-! ### isinstance -/
def D.isI : D → Bool
  | .int _ => true | .bl _ => true | _ => false
def D.isB : D → Bool
  | .bl _ => true | _ => false
def D.isS : D → Bool
  | .str _ => true | _ => false
def D.isT : D → Bool
  | .tup _ => true | _ => false
def D.isL : D → Bool
  | .lst _ => true | _ => false
theorem kitI {d : D} (hd : d.tyd = true) : kitB d.tyN "int" = some d.isI := by
  cases d with
  | non => exact (by decide +kernel : kitB "NoneType" "int" = some false)
  | bl => exact (by decide +kernel : kitB "bool" "int" = some true)
  | int => exact (by decide +kernel : kitB "int" "int" = some true)
  | str => exact (by decide +kernel : kitB "str" "int" = some false)
  | tup => exact (by decide +kernel : kitB "tuple" "int" = some false)
  | lst => exact (by decide +kernel : kitB "list" "int" = some false)
  | dK => exact (by decide +kernel : kitB "dict" "int" = some false)
  | dT => exact (by decide +kernel : kitB "dict" "int" = some false)
  | ref _ => cases hd
  | fzl _ => cases hd
  | ty _ => cases hd
theorem kitBo {d : D} (hd : d.tyd = true) : kitB d.tyN "bool" = some d.isB := by
  cases d with
  | non => exact (by decide +kernel : kitB "NoneType" "bool" = some false)
  | bl => exact (by decide +kernel : kitB "bool" "bool" = some true)
  | int => exact (by decide +kernel : kitB "int" "bool" = some false)
  | str => exact (by decide +kernel : kitB "str" "bool" = some false)
  | tup => exact (by decide +kernel : kitB "tuple" "bool" = some false)
  | lst => exact (by decide +kernel : kitB "list" "bool" = some false)
  | dK => exact (by decide +kernel : kitB "dict" "bool" = some false)
  | dT => exact (by decide +kernel : kitB "dict" "bool" = some false)
  | ref _ => cases hd
  | fzl _ => cases hd
  | ty _ => cases hd
theorem kitS {d : D} (hd : d.tyd = true) : kitB d.tyN "str" = some d.isS := by
  cases d with
  | non => exact (by decide +kernel : kitB "NoneType" "str" = some false)
  | bl => exact (by decide +kernel : kitB "bool" "str" = some false)
  | int => exact (by decide +kernel : kitB "int" "str" = some false)
  | str => exact (by decide +kernel : kitB "str" "str" = some true)
  | tup => exact (by decide +kernel : kitB "tuple" "str" = some false)
  | lst => exact (by decide +kernel : kitB "list" "str" = some false)
  | dK => exact (by decide +kernel : kitB "dict" "str" = some false)
  | dT => exact (by decide +kernel : kitB "dict" "str" = some false)
  | ref _ => cases hd
  | fzl _ => cases hd
  | ty _ => cases hd
theorem kitT {d : D} (hd : d.tyd = true) : kitB d.tyN "tuple" = some d.isT := by
  cases d with
  | non => exact (by decide +kernel : kitB "NoneType" "tuple" = some false)
  | bl => exact (by decide +kernel : kitB "bool" "tuple" = some false)
  | int => exact (by decide +kernel : kitB "int" "tuple" = some false)
  | str => exact (by decide +kernel : kitB "str" "tuple" = some false)
  | tup => exact (by decide +kernel : kitB "tuple" "tuple" = some true)
  | lst => exact (by decide +kernel : kitB "list" "tuple" = some false)
  | dK => exact (by decide +kernel : kitB "dict" "tuple" = some false)
  | dT => exact (by decide +kernel : kitB "dict" "tuple" = some false)
  | ref _ => cases hd
  | fzl _ => cases hd
  | ty _ => cases hd
theorem kitL {d : D} (hd : d.tyd = true) : kitB d.tyN "list" = some d.isL := by
  cases d with
  | non => exact (by decide +kernel : kitB "NoneType" "list" = some false)
  | bl => exact (by decide +kernel : kitB "bool" "list" = some false)
  | int => exact (by decide +kernel : kitB "int" "list" = some false)
  | str => exact (by decide +kernel : kitB "str" "list" = some false)
  | tup => exact (by decide +kernel : kitB "tuple" "list" = some false)
  | lst => exact (by decide +kernel : kitB "list" "list" = some true)
  | dK => exact (by decide +kernel : kitB "dict" "list" = some false)
  | dT => exact (by decide +kernel : kitB "dict" "list" = some false)
  | ref _ => cases hd
  | fzl _ => cases hd
  | ty _ => cases hd
theorem kitTL {d : D} (hd : d.tyd = true) : kitBs d.tyN ["tuple", "list"] = some (d.isT || d.isL) := by
  cases d with
  | non => exact (by decide +kernel : kitBs "NoneType" ["tuple", "list"] = some false)
  | bl => exact (by decide +kernel : kitBs "bool" ["tuple", "list"] = some false)
  | int => exact (by decide +kernel : kitBs "int" ["tuple", "list"] = some false)
  | str => exact (by decide +kernel : kitBs "str" ["tuple", "list"] = some false)
  | tup => exact (by decide +kernel : kitBs "tuple" ["tuple", "list"] = some true)
  | lst => exact (by decide +kernel : kitBs "list" ["tuple", "list"] = some true)
  | dK => exact (by decide +kernel : kitBs "dict" ["tuple", "list"] = some false)
  | dT => exact (by decide +kernel : kitBs "dict" ["tuple", "list"] = some false)
  | ref _ => cases hd
  | fzl _ => cases hd
  | ty _ => cases hd
theorem bx_isiI {d : D} (hd : d.tyd = true) (q : Q (.bl d.isI) M) : BX B X (.builtin "isinstance") [d, .ty "int"] G M Q := bx_isi hd (kitI hd) q
theorem bx_isiB {d : D} (hd : d.tyd = true) (q : Q (.bl d.isB) M) : BX B X (.builtin "isinstance") [d, .ty "bool"] G M Q := bx_isi hd (kitBo hd) q
theorem bx_isiSt {d : D} (hd : d.tyd = true) (q : Q (.bl d.isS) M) : BX B X (.builtin "isinstance") [d, .ty "str"] G M Q := bx_isi hd (kitS hd) q
theorem bx_isiTu {d : D} (hd : d.tyd = true) (q : Q (.bl d.isT) M) : BX B X (.builtin "isinstance") [d, .ty "tuple"] G M Q := bx_isi hd (kitT hd) q
theorem bx_isiLi {d : D} (hd : d.tyd = true) (q : Q (.bl d.isL) M) : BX B X (.builtin "isinstance") [d, .ty "list"] G M Q := bx_isi hd (kitL hd) q
theorem bx_isiTL {d : D} (hd : d.tyd = true) (q : Q (.bl (d.isT || d.isL)) M) : BX B X (.builtin "isinstance") [d, .tup [.ty "tuple", .ty "list"]] G M Q := bx_isiT hd rfl (kitTL hd) q

/-! ### list(..), tuple(..), int(..), str(..) -/
theorem bx_listL {ds : List D} (q : Q (.lst ds) M) : BX B X (.type "list") [.lst ds] G M Q := fun F σ H Q' vs r pa kk => by
  obtain ⟨v, rfl, rp⟩ := rp1 pa
  cases rp with
  | @lst a xs _ hs rs => exact WC.of call_list_of ⟨a, xs, rfl, .inl (SqL.of (r.ex _ _ hs)), fun l hl => kk.new r hl q (.lst upd_same (rs.mono (r.new hl).1))⟩
theorem bx_listT {ds : List D} (q : Q (.lst ds) M) : BX B X (.type "list") [.tup ds] G M Q := fun F σ H Q' vs r pa kk => by
  obtain ⟨v, rfl, rp⟩ := rp1 pa
  cases rp with
  | @tup a xs _ hs rs => exact WC.of call_list_of ⟨a, xs, rfl, .inr (sq_same r.ex hs), fun l hl => kk.new r hl q (.lst upd_same (rs.mono (r.new hl).1))⟩
theorem bx_listLM {ds : List D} (q : ∀ l, M l = none → Q (.ref l) (mupd M l (.lst ds))) : BX B X (.type "list") [.lst ds] G M Q := fun F σ H Q' vs r pa kk => by
  obtain ⟨v, rfl, rp⟩ := rp1 pa
  cases rp with
  | @lst a xs _ hs rs => exact WC.of call_list_of ⟨a, xs, rfl, .inl (SqL.of (r.ex _ _ hs)), fun l hl => kk.cell r hl (q l (r.freeM hl)) ⟨xs, upd_same, rs⟩⟩
theorem bx_listTM {ds : List D} (q : ∀ l, M l = none → Q (.ref l) (mupd M l (.lst ds))) : BX B X (.type "list") [.tup ds] G M Q := fun F σ H Q' vs r pa kk => by
  obtain ⟨v, rfl, rp⟩ := rp1 pa
  cases rp with
  | @tup a xs _ hs rs => exact WC.of call_list_of ⟨a, xs, rfl, .inr (sq_same r.ex hs), fun l hl => kk.cell r hl (q l (r.freeM hl)) ⟨xs, upd_same, rs⟩⟩
theorem bx_listC {l : Addr} {ds : List D} (hm : M l = some (.lst ds)) (q : Q (.lst ds) M) : BX B X (.type "list") [.ref l] G M Q := fun F σ H Q' vs r pa kk => by
  obtain ⟨v, rfl, rp⟩ := rp1 pa
  cases rp
  obtain ⟨_, xs, hx, rx⟩ := r.mem l _ hm
  exact WC.of call_list_of ⟨l, xs, rfl, .inl (.inl (.inl hx)), fun l hl => kk.new r hl q (.lst upd_same (rx.mono (r.new hl).1))⟩
theorem bx_tupL {ds : List D} (q : Q (.tup ds) M) : BX B X (.type "tuple") [.lst ds] G M Q := fun F σ H Q' vs r pa kk => by
  obtain ⟨v, rfl, rp⟩ := rp1 pa
  cases rp with
  | @lst a xs _ hs rs => exact WC.of call_tuple_of ⟨a, xs, rfl, .inl ⟨SqL.of (r.ex _ _ hs), fun l hl => kk.new r hl q (.tup sq_upd (rs.mono (r.new hl).1))⟩⟩
theorem bx_tupC {l : Addr} {ds : List D} (hm : M l = some (.lst ds)) (q : Q (.tup ds) M) : BX B X (.type "tuple") [.ref l] G M Q := fun F σ H Q' vs r pa kk => by
  obtain ⟨v, rfl, rp⟩ := rp1 pa
  cases rp
  obtain ⟨_, xs, hx, rx⟩ := r.mem l _ hm
  exact WC.of call_tuple_of ⟨l, xs, rfl, .inl ⟨.inl (.inl hx), fun l hl => kk.new r hl q (.tup sq_upd (rx.mono (r.new hl).1))⟩⟩
theorem bx_strI (h : i.natAbs.log2 < 1920) (q : Q (.str (toString i)) M) : BX B X (.type "str") [.int i] G M Q := fun F σ H Q' vs r pa kk => by
  obtain ⟨v, rfl, rp⟩ := rp1 pa
  cases rp
  exact WC.of call_str_int ⟨i, rfl, h, kk.at r q (.str _)⟩
theorem bx_intS {n : Int} (h : PySem.intText? x = some n) (hl : x.length ≤ 640) (q : Q (.int n) M) : BX B X (.type "int") [.str x] G M Q := fun F σ H Q' vs r pa kk => by
  obtain ⟨v, rfl, rp⟩ := rp1 pa
  cases rp
  exact WC.of call_int_str ⟨x, n, rfl, h, hl, kk.at r q (.int _)⟩
theorem bx_intB {t : Bool} (q : Q (.int (if t then 1 else 0)) M) : BX B X (.type "int") [.bl t] G M Q := fun F σ H Q' vs r pa kk => by
  obtain ⟨v, rfl, rp⟩ := rp1 pa
  cases rp
  exact WC.of call_int1 (.inr ⟨t, rfl, kk.at r q (.int _)⟩)
theorem bx_max2 {i j : Int} (hc : X.calm = true) (q : Q (.int (if j > i then j else i)) M) : BX B X (.builtin "max") [.int i, .int j] G M Q := fun F σ H Q' vs r pa kk => by
  obtain ⟨v, v2, rfl, rp, rp2⟩ := rp2 pa
  cases rp; cases rp2
  exact WC.of (call_max2 hc) ⟨i, j, rfl, kk.at r q (.int _)⟩
theorem bx_min2 {i j : Int} (hc : X.calm = true) (q : Q (.int (if j < i then j else i)) M) : BX B X (.builtin "min") [.int i, .int j] G M Q := fun F σ H Q' vs r pa kk => by
  obtain ⟨v, v2, rfl, rp, rp2⟩ := rp2 pa
  cases rp; cases rp2
  exact WC.of (call_min2 hc) ⟨i, j, rfl, kk.at r q (.int _)⟩

/-! ### methods of texts -/
theorem ex_m1 {id : String} {name : Str} (slot : Slot "str" name id) (ty : typeOf (.builtin id) = pure (.type "method_descriptor")) (hs : starEach [e] X.env = [(false, eval e X.env)]) (hbase : attributeBase o name X.env (eval o X.env) = eval o X.env) (hline : (apos.endLine == pos.line) = true)
    (h : EX B X o G M fun d M1 => ∃ z, d = .str z ∧ EX B X e G M1 fun y M2 => MX B X id d [y] G M2 Q) : EX B X (.Call (.Attribute o name apos) [e] [] pos) G M Q := fun F σ H Q' r kk =>
  WE.of (pe_m1 slot ty mt_wm pe_we pe_we hs hbase hline) (h F σ H _ r fun v1 H1 F1 d1 M1 ⟨z, e1, q1⟩ s1 r1 p1 => by
    subst e1
    cases p1
    exact ⟨⟨z, rfl⟩, q1 F1 σ H1 _ r1 fun v2 H2 F2 d2 M2 q2 s2 r2 p2 => q2 F2 σ H2 Q' _ _ r2 (.str z) (.cons p2 .nil) (kk.mono (s1.trans s2))⟩)
theorem mx_split (hy : (y.length == 0) = false) (hx : x.length + 2 ≤ sizeLine) (q : Q (.lst ((Txt.split x y).map D.str)) M) : MX B X "str.split" (.str x) [.str y] G M Q := fun F σ H Q' v vs r p1 pa kk => by
  obtain ⟨v2, rfl, rp⟩ := rp1 pa
  cases p1; cases rp
  exact WM.of mt_split ⟨x, y, rfl, rfl, hy, hx, fun p hp => kk.new r hp q (.lst upd_same RpAll.strs)⟩
theorem RpAll.strs_of {K : PySem.W.Frag} : ∀ {zs : List Str} {vs : List V}, RpAll K F vs (zs.map D.str) → vs = zs.map V.str
  | [], _, h => by cases h; rfl
  | z :: zs, _, h => by
    cases h with
    | cons p t =>
      cases p
      rw [RpAll.strs_of t]; rfl
theorem RpAll.ints_of {K : PySem.W.Frag} : ∀ {zs : List Int} {vs : List V}, RpAll K F vs (zs.map D.int) → vs = zs.map V.int
  | [], _, h => by cases h; rfl
  | z :: zs, _, h => by
    cases h with
    | cons p t =>
      cases p
      rw [RpAll.ints_of t]; rfl
theorem mx_join {zs : List Str} (hz : (zs.map (·.length)).sum + zs.length * x.length ≤ 16777216) (q : Q (.str (Txt.join x zs)) M) : MX B X "str.join" (.str x) [.lst (zs.map D.str)] G M Q := fun F σ H Q' v vs r p1 pa kk => by
  obtain ⟨v2, rfl, rp⟩ := rp1 pa
  cases p1
  cases rp with
  | @lst a xs _ hs rs =>
    have e := RpAll.strs_of rs
    subst e
    exact WM.of mt_join ⟨x, a, zs, rfl, rfl, .inl (SqL.of (r.ex _ _ hs)), hz, kk.at r q (.str _)⟩
/-- a text, sign by sign -/
def signsD (x : Str) : List D := x.cps.toList.map fun c => D.str ⟨#[c]⟩
theorem lx_str {Q : List D → Mem → Prop} (h : EX B X e G M fun d M1 => ∃ z, d = .str z ∧ Q (signsD z) M1) : LX B X tg e G M Q := fun F σ H R' r k =>
  WIt.of (pi_str pe_we) (h F σ H _ r fun v H1 F1 d1 M1 ⟨z, e1, q⟩ s1 r1 p1 => by
    subst e1
    cases p1
    refine ⟨z, rfl, k _ _ F1 _ M1 q s1 r1 ⟨fun i H hi s => ?_, fun H s => ?_, fun i H x H' hi s y => ?_⟩⟩
    · show i < z.cps.size
      simpa [signsD] using hi
    · show z.cps.size ≤ _
      simp [signsD]
    · obtain ⟨e, c, hc, hx⟩ := y
      subst e; subst hx
      refine ⟨.str ⟨#[c]⟩, ?_, fun B F1 σ G M s1 r1 => ⟨F1, Same.refl F1, r1, .str _⟩⟩
      unfold signsD
      rw [List.getElem?_map, Array.getElem?_toList, hc]
      rfl)

/-! ### f-strings -/
theorem ex_fmtS (h : EX B X e G M fun d M1 => ∃ z, d = .str z ∧ z.length ≤ sizeLine ∧ Q (.str z) M1) : EX B X (.FormattedValue e (-1) none pos) G M Q := fun F σ H Q' r kk =>
  WE.of (pe_fmt pe_we) (h F σ H _ r fun v H1 F1 d1 M1 ⟨z, e1, hl, q⟩ s1 r1 p1 => by
    subst e1; cases p1
    exact .inl ⟨z, rfl, hl, (kk.mono s1).at r1 q (.str _)⟩)
theorem ex_fmtI (h : EX B X e G M fun d M1 => ∃ i : Int, d = .int i ∧ i.natAbs.log2 < 1920 ∧ Q (.str (toString i)) M1) : EX B X (.FormattedValue e (-1) none pos) G M Q := fun F σ H Q' r kk =>
  WE.of (pe_fmt pe_we) (h F σ H _ r fun v H1 F1 d1 M1 ⟨i, e1, hl, q⟩ s1 r1 p1 => by
    subst e1; cases p1
    exact .inr ⟨i, rfl, hl, (kk.mono s1).at r1 q (.str _)⟩)
/-- the parts of a text, one behind the other -/
def JX (B : Bs) (X : Cx) : List Expr → Str → Sl → Mem → (Str → Mem → Prop) → Prop
  | [], acc, _, M, Q => Q acc M
  | e :: es, acc, G, M, Q => EX B X e G M fun d M1 => ∃ y, d = .str y ∧ (acc ++ y).length ≤ sizeLine ∧ JX B X es (acc ++ y) G M1 Q
theorem pj_we : ∀ es : List Expr, PJ X es (es.map (WE X))
  | [] => .nil
  | _ :: es => .cons pe_we (pj_we es)
theorem jx_ok {Q : Str → Mem → Prop} {Q' : Str → Hp → Prop} : ∀ {es : List Expr} {acc : Str} {M : Mem} {F H : Hp}, JX B X es acc G M Q → R B X.K F σ H G M → (∀ out H' F' M', Q out M' → Same F F' → R B X.K F' σ H' G M' → Q' out H') → tJs (es.map (WE X)) acc σ H Q'
  | [], acc, M, F, H, h, r, k => k acc H F M h (Same.refl F) r
  | e :: es, acc, M, F, H, h, r, k => by
    refine h F σ H _ r fun v H1 F1 d1 M1 ⟨z, e1, hl, q⟩ s1 r1 p1 => ?_
    subst e1; cases p1
    exact ⟨z, rfl, hl, jx_ok q r1 fun out H' F' M' qq s' r' => k out H' F' M' qq (s1.trans s') r'⟩
theorem ex_joined {v1 v2 : Expr} {rest : List Expr} (h : JX B X (v1 :: v2 :: rest) Str.empty G M fun out M1 => Q (.str out) M1) : EX B X (.JoinedStr (v1 :: v2 :: rest) pos) G M Q := fun F σ H Q' r kk =>
  WE.of (pe_joined (pj_we _)) (jx_ok h r fun out H' F' M' q s' r' => (kk.mono s').at r' q (.str out))
end

/-! ### equality of data -/
mutual
def D.py : D → PyData
  | .non => .none | .bl b => .bool b | .int i => .int i | .str x => .str x | .tup ds => .tuple (pys ds) | .lst ds => .list (pys ds)
  | .ref _ => .none | .ty _ => .none | .dK _ => .none | .dT _ => .none | .fzl _ => .none
def pys : List D → List PyData
  | [] => []
  | d :: ds => d.py :: pys ds
end
mutual
def D.isPy : D → Bool
  | .non => true | .bl _ => true | .int _ => true | .str _ => true | .tup ds => arePy ds | .lst ds => arePy ds
  | .ref _ => false | .ty _ => false | .dK _ => false | .dT _ => false | .fzl _ => false
def arePy : List D → Bool
  | [] => true
  | d :: ds => d.isPy && arePy ds
end
mutual
theorem Rp.dp {K : PySem.W.Frag} {F H : Hp} (s : Same F H) : ∀ {v : V} {d : D}, Rp K F v d → d.isPy = true → Dp K H v d.py
  | _, _, .non, _ => by unfold D.py; exact .non
  | _, _, .bl b, _ => by unfold D.py; exact .bl b
  | _, _, .int i, _ => by unfold D.py; exact .int i
  | _, _, .str x, _ => by unfold D.py; exact .str x
  | _, _, .ref _, h => by unfold D.isPy at h; cases h
  | _, _, .ty _, h => by unfold D.isPy at h; cases h
  | _, _, .tup hs r, h => by unfold D.isPy at h; unfold D.py; exact .tup (sq_same s hs) (RpAll.dp s r h)
  | _, _, .lst hs r, h => by unfold D.isPy at h; unfold D.py; exact .lst (SqL.of (s _ _ hs)) (RpAll.dp s r h)
  | _, _, .fzl _ _, h => by unfold D.isPy at h; cases h
  | _, _, .dK _ _, h => by unfold D.isPy at h; cases h
  | _, _, .dT _ _, h => by unfold D.isPy at h; cases h
theorem RpAll.dp {K : PySem.W.Frag} {F H : Hp} (s : Same F H) : ∀ {vs : List V} {ds : List D}, RpAll K F vs ds → arePy ds = true → DpAll K H vs (pys ds)
  | _, _, .nil, _ => by unfold pys; exact .nil
  | _, _, .cons p r, h => by
    unfold arePy at h
    obtain ⟨h1, h2⟩ := Bool.and_eq_true_iff.mp h
    unfold pys
    exact .cons (Rp.dp s p h1) (RpAll.dp s r h2)
end
def D.okEq (d : D) : Bool := d.isPy && SeqAt.shaped d.py
def eqD (d e : D) : Bool := PyData.eqv d.py e.py
section
variable {B : Bs} {X : Cx} {G : Sl} {M : Mem} {Q : D → Mem → Prop} {d d2 : D}
theorem ox_eqD (hu : X.A.units + 64 < cLine) (h1 : d.okEq = true) (h2 : d2.okEq = true) (q : Q (.bl (eqD d d2)) M) : OX B X (compareOp .Eq) d d2 G M Q := fun F σ H Q' v w r p1 p2 kk => by
  obtain ⟨a1, a2⟩ := Bool.and_eq_true_iff.mp h1
  obtain ⟨b1, b2⟩ := Bool.and_eq_true_iff.mp h2
  exact WO.of (op_eqD hu) ⟨_, _, p1.dp r.ex a1, p2.dp r.ex b1, a2, b2, kk.at r q (.bl _)⟩
theorem ox_neD (hu : X.A.units + 64 < cLine) (h1 : d.okEq = true) (h2 : d2.okEq = true) (q : Q (.bl (!eqD d d2)) M) : OX B X (compareOp .NotEq) d d2 G M Q := fun F σ H Q' v w r p1 p2 kk => by
  obtain ⟨a1, a2⟩ := Bool.and_eq_true_iff.mp h1
  obtain ⟨b1, b2⟩ := Bool.and_eq_true_iff.mp h2
  exact WO.of (op_neD hu) ⟨_, _, p1.dp r.ex a1, p2.dp r.ex b1, a2, b2, kk.at r q (.bl _)⟩
end
end FL

/-! cells that are only read by a callee; what is told is immutable -/
namespace FL
open PySem PySem.Spec PyProof.Rows L2
mutual
/-- the data with the list cells' contents in their places -/
inductive Deep (M : Mem) : D → D → Prop
  | self (d : D) : Deep M d d
  | cell {l : Addr} {ds es : List D} : M l = some (.lst ds) → DeepAll M ds es → Deep M (.ref l) (.lst es)
  | lst {ds es : List D} : DeepAll M ds es → Deep M (.lst ds) (.lst es)
  | tup {ds es : List D} : DeepAll M ds es → Deep M (.tup ds) (.tup es)
inductive DeepAll (M : Mem) : List D → List D → Prop
  | nil : DeepAll M [] []
  | cons {d e : D} {ds es : List D} : Deep M d e → DeepAll M ds es → DeepAll M (d :: ds) (e :: es)
end
theorem DeepAll.self {M : Mem} : ∀ ds : List D, DeepAll M ds ds
  | [] => .nil
  | d :: ds => .cons (.self d) (DeepAll.self ds)
section
variable {B : Bs} {K : PySem.W.Frag} {F H : Hp} {σ : L2.St} {G : Sl} {M : Mem}
mutual
theorem Deep.rp (r : R B K F σ H G M) : ∀ {d e : D}, Deep M d e → ∀ {v : V}, Rp K F v d → Rp K H v e
  | _, _, .self d, _, p => p.mono r.ex
  | _, _, .cell hm ha, _, p => by
    cases p
    obtain ⟨_, xs, hx, rx⟩ := r.mem _ _ hm
    exact .lst hx (DeepAll.rp r ha rx)
  | _, _, .lst ha, _, p => by
    cases p with
    | lst hs rs => exact .lst (r.ex _ _ hs) (DeepAll.rp r ha rs)
  | _, _, .tup ha, _, p => by
    cases p with
    | tup hs rs => exact .tup (sq_same r.ex hs) (DeepAll.rp r ha rs)
theorem DeepAll.rp (r : R B K F σ H G M) : ∀ {ds es : List D}, DeepAll M ds es → ∀ {vs : List V}, RpAll K F vs ds → RpAll K H vs es
  | _, _, .nil, _, p => by cases p; exact .nil
  | _, _, .cons h t, _, p => by
    cases p with
    | cons p1 p2 => exact .cons (Deep.rp r h p1) (DeepAll.rp r t p2)
end
end
mutual
def D.imm : D → Bool
  | .non => true | .bl _ => true | .int _ => true | .str _ => true | .ty _ => true | .tup ds => imms ds
  | .lst _ => false | .ref _ => false | .dK _ => false | .dT _ => false | .fzl _ => false
def imms : List D → Bool
  | [] => true
  | d :: ds => d.imm && imms ds
end
theorem MRp.kind {K : PySem.W.Frag} {F H : Hp} {a : Addr} : ∀ {o : MO}, MRp K F H a o → ∃ u, H a = some u ∧ (∀ xs, u ≠ .tup xs) ∧ ∀ ob w, u ≠ .frz ob w
  | .lst _, ⟨xs, h, r⟩ => ⟨_, h, (fun _ e => by cases e), (fun _ _ e => by cases e)⟩
  | .ins _ _, ⟨dx, vs, h, r⟩ => ⟨_, h, (fun _ e => by cases e), (fun _ _ e => by cases e)⟩
  | .dK _, ⟨xs, h, r⟩ => ⟨_, h, (fun _ e => by cases e), (fun _ _ e => by cases e)⟩
  | .dT _, ⟨xs, h, r⟩ => ⟨_, h, (fun _ e => by cases e), (fun _ _ e => by cases e)⟩
  | .tbl _, ⟨ps, h, _⟩ => ⟨_, h, (fun _ e => by cases e), (fun _ _ e => by cases e)⟩
  | .xd _ _, h => ⟨_, h, (fun _ e => by cases e), (fun _ _ e => by cases e)⟩
section
variable {B : Bs} {K : PySem.W.Frag} {F H F0 : Hp} {σ : L2.St} {G : Sl} {M : Mem}
/-- one more thing of the heap is known to stay -/
theorem R.know {a : Addr} {u : HO} (r : R B K F σ H G M) (h : H a = some u) (hu : (∃ xs, u = .tup xs) ∨ ∃ ob w, u = .frz ob w) : ∃ F2, Same F F2 ∧ R B K F2 σ H G M ∧ F2 a = some u := by
  cases e : F a with
  | some w =>
    have h2 := r.ex a w e
    rw [h] at h2
    cases h2
    exact ⟨F, Same.refl F, r, e⟩
  | none =>
    refine ⟨upd F a u, Same.upd_new e, R.grow (Same.upd_new e) (fun b w q => ?_) (fun b o q => ?_) r, upd_same⟩
    · by_cases hb : b = a
      · subst hb; rw [upd_same] at q; cases q; exact h
      · rw [upd_ne hb] at q; exact r.ex b w q
    · have hb : b ≠ a := fun z => by
        subst z
        obtain ⟨w, hw, k1, k2⟩ := (r.mem b o q).2.kind
        rw [h] at hw; cases hw
        rcases hu with ⟨xs, z⟩ | ⟨ob, w, z⟩
        · exact k1 xs z
        · exact k2 ob w z
      rw [upd_ne hb]; exact (r.mem b o q).1
mutual
theorem Rp.take_in (s : Same F0 H) : ∀ {v : V} {d : D}, Rp K F0 v d → d.imm = true → ∀ {F : Hp}, R B K F σ H G M → ∃ F2, Same F F2 ∧ R B K F2 σ H G M ∧ Rp K F2 v d
  | _, _, .non, _, F, r => ⟨F, Same.refl F, r, .non⟩
  | _, _, .bl b, _, F, r => ⟨F, Same.refl F, r, .bl b⟩
  | _, _, .int b, _, F, r => ⟨F, Same.refl F, r, .int b⟩
  | _, _, .str b, _, F, r => ⟨F, Same.refl F, r, .str b⟩
  | _, _, .ty b, _, F, r => ⟨F, Same.refl F, r, .ty b⟩
  | _, _, .ref _, h, _, _ => by unfold D.imm at h; cases h
  | _, _, .lst _ _, h, _, _ => by unfold D.imm at h; cases h
  | _, _, .fzl _ _, h, _, _ => by unfold D.imm at h; cases h
  | _, _, .dK _ _, h, _, _ => by unfold D.imm at h; cases h
  | _, _, .dT _ _, h, _, _ => by unfold D.imm at h; cases h
  | _, _, .tup hs rs, h, F, r => by
    unfold D.imm at h
    obtain ⟨F1, s1, r1, p1⟩ := RpAll.take_in s rs h r
    rcases hs with (hs | ⟨ob, hs⟩) | hs
    · obtain ⟨F2, s2, r2, e2⟩ := r1.know (s _ _ hs) (.inl ⟨_, rfl⟩)
      exact ⟨F2, s1.trans s2, r2, .tup (.inl (.inl e2)) (p1.mono s2)⟩
    · obtain ⟨F2, s2, r2, e2⟩ := r1.know (s _ _ hs) (.inr ⟨_, _, rfl⟩)
      exact ⟨F2, s1.trans s2, r2, .tup (.inl (.inr ⟨ob, e2⟩)) (p1.mono s2)⟩
    · exact ⟨F1, s1, r1, .tup (.inr hs) p1⟩
theorem RpAll.take_in (s : Same F0 H) : ∀ {vs : List V} {ds : List D}, RpAll K F0 vs ds → imms ds = true → ∀ {F : Hp}, R B K F σ H G M → ∃ F2, Same F F2 ∧ R B K F2 σ H G M ∧ RpAll K F2 vs ds
  | _, _, .nil, _, F, r => ⟨F, Same.refl F, r, .nil⟩
  | _, _, .cons p t, h, F, r => by
    unfold imms at h
    obtain ⟨h1, h2⟩ := Bool.and_eq_true_iff.mp h
    obtain ⟨F1, s1, r1, p1⟩ := Rp.take_in s p h1 r
    obtain ⟨F2, s2, r2, p2⟩ := RpAll.take_in s t h2 r1
    exact ⟨F2, s1.trans s2, r2, .cons (p1.mono s2) p2⟩
end
end
abbrev noM : Mem := fun _ => none
section
variable {B : Bs} {X : Cx} {a b c e o : Expr} {es : List Expr} {G : Sl} {M : Mem} {Q : D → Mem → Prop} {pos p : Pos} {F F1 : Hp} {σ : L2.St} {k : Nat} {x : Str} {sp : DSp}
theorem lift_ro {H1 : Hp} {vs : List V} {ds es : List D} {Q' : VK} {E0' : XK} {Qd : D → Mem → Prop} (r1 : R B X.K F1 σ H1 G M) (p1 : RpAll X.K F1 vs ds) (dp : DeepAll M ds es) (q : sp es noM Qd) (hq : ∀ d M', Qd d M' → d.imm = true ∧ Q d M) (kk : KE B X F1 σ G Q Q') : lift X.K sp vs H1 Q' E0' := by
  refine ⟨H1, es, noM, Qd, dp.rp r1 p1, Same.refl H1, (fun _ _ z => by cases z), q, fun d M' qd v H' F' s' k' e' m' rp => ?_⟩
  obtain ⟨hi, hd⟩ := hq d M' qd
  have hs : Same H1 H' := fun a u h => (k' a u h rfl).1
  obtain ⟨F2, s2, r2, p2⟩ := rp.take_in e' hi (r1.heap hs)
  exact kk v H' F2 d M hd s2 r2 p2
/-- a call that only reads the cells -/
theorem ex_callR (c : Dfn X.prog X.w X.K X.mg X.base k x sp) (hr : Room k X.A) (hg : Gl X x) (hdb : (x == ("__debug__" : Str)) = false)
    (he : starEach (e :: es) X.env = (false, eval e X.env) :: starEach es X.env) (hpl : (backTo pos (starEach es X.env)).any (·.1) = false)
    (h : AX B X (e :: es) G M fun ds M1 => ∃ es' Qd, DeepAll M1 ds es' ∧ sp es' noM Qd ∧ ∀ d M', Qd d M' → d.imm = true ∧ Q d M1) : EX B X (.Call (.Name x p) (e :: es) [] pos) G M Q := fun F σ H Q' r kk => by
  obtain ⟨f, fd, ps, Fo, mgx, kp, bd⟩ := c.ex
  refine WE.of (pe_call Fo hr hg mgx kp bd .nil pass0 pa_wa hdb he hpl) (h F σ H _ r fun vs H1 F1 ds M1 ⟨es', Qd, dp, q1, hq⟩ s1 r1 p1 => ?_)
  rw [List.append_nil]
  exact lift_ro r1 p1 dp q1 hq (kk.mono s1)
/-- append to a list cell -/
theorem mx_append {l : Addr} {ds : List D} {d : D} (hm : M l = some (.lst ds)) (hl : ds.length < sizeLine) (q : Q .non (mupd M l (.lst (ds ++ [d])))) : MX B X "list.append" (.ref l) [d] G M Q := fun F σ H Q' v vs r p1 pa kk => by
  obtain ⟨v2, rfl, rp⟩ := rp1 pa
  cases p1
  obtain ⟨_, xs, hx, rx⟩ := r.mem l _ hm
  exact WM.of mt_append ⟨l, xs, v2, rfl, rfl, hx, by rw [rx.length]; exact hl, kk _ _ F _ _ q (Same.refl F) (r.write hm ⟨_, upd_same, rx.append (.cons rp .nil)⟩) .non⟩
/-- a method of a built-in list, with arguments; the receiver a cell -/
theorem ex_bmC {name : Str} {id : String} {apos : Pos} (slot : Slot "list" name id) (hty : typeOf (.builtin id) = pure (.type "method_descriptor"))
    (hbase : attributeBase o name X.env (eval o X.env) = eval o X.env)
    (hfew : ((backTo pos (starEach (e :: es) X.env)).all (fun x => !x.1) && (backToKw pos (keywordEach [] X.env)).all (fun x => x.1.isSome)
      && decide ((e :: es).length + ([] : List Keyword).length + (if ([] : List Keyword).isEmpty then 0 else 1) < 30)) = true)
    (hline : (apos.endLine == pos.line) = true) (hs : starEach (e :: es) X.env = (false, eval e X.env) :: starEach es X.env) (hplain : (backTo pos (starEach es X.env)).any (·.1) = false)
    (h : EX B X o G M fun d M1 => ∃ l ds, d = .ref l ∧ M1 l = some (.lst ds) ∧ AX B X (e :: es) G M1 fun xs M2 => MX B X id (.ref l) xs G M2 Q) : EX B X (.Call (.Attribute o name apos) (e :: es) [] pos) G M Q := fun F σ H Q' r kk =>
  WE.of (pe_bm PySem.F.plainAttrs_list slot hty mt_wm pe_we pa_wa hbase hfew hline hs hplain) (h F σ H _ r fun v1 H1 F1 d1 M1 ⟨l, ds, e1, hm, q1⟩ s1 r1 p1 => by
    subst e1
    cases p1
    obtain ⟨_, xs, hx, rx⟩ := r1.mem l _ hm
    exact ⟨.inl ⟨rfl, xs, .inl (.inl hx)⟩, q1 F1 σ H1 _ r1 fun vs H2 F2 ds2 M2 q2 s2 r2 p2 => q2 F2 σ H2 Q' _ vs r2 (.ref l) p2 (kk.mono (s1.trans s2))⟩)
/-- l.append(e), l a cell -/
theorem ex_append {apos : Pos} (hbase : attributeBase o "append" X.env (eval o X.env) = eval o X.env)
    (hfew : ((backTo pos (starEach [e] X.env)).all (fun x => !x.1) && (backToKw pos (keywordEach [] X.env)).all (fun x => x.1.isSome)
      && decide ([e].length + ([] : List Keyword).length + (if ([] : List Keyword).isEmpty then 0 else 1) < 30)) = true)
    (hline : (apos.endLine == pos.line) = true) (hs : starEach [e] X.env = (false, eval e X.env) :: starEach [] X.env) (hplain : (backTo pos (starEach [] X.env)).any (·.1) = false)
    (h : EX B X o G M fun d M1 => ∃ l ds0, d = .ref l ∧ M1 l = some (.lst ds0) ∧ EX B X e G M1 fun y M2 => ∃ ds, M2 l = some (.lst ds) ∧ ds.length < sizeLine ∧ Q .non (mupd M2 l (.lst (ds ++ [y])))) : EX B X (.Call (.Attribute o "append" apos) [e] [] pos) G M Q :=
  ex_bmC PySem.F.slot_list_append PySem.F.type_list_append hbase hfew hline hs hplain (h.imp fun d M1 ⟨l, ds0, e1, hm, q⟩ => ⟨l, ds0, e1, hm, ax_cons hs (q.imp fun y M2 ⟨ds, h2, hl, q2⟩ => ax_nil (mx_append h2 hl q2))⟩)
end
end FL

namespace FL
open PySem PySem.Spec PyProof.Rows L2
section
variable {B : Bs} {X : Cx} {a b c e o tg iter elt : Expr} {es : List Expr} {G G' : Sl} {M M' : Mem} {Q : D → Mem → Prop} {E : En} {pos p pos' : Pos} {F F1 : Hp} {σ : L2.St}
/-- a comprehension that changes no cell: f tells what an item comes to -/
def LcP (B : Bs) (X : Cx) (scope : Scope) (own : List Nat) (t : Tg) (ifs : List Expr) (elt : Expr) (G : Sl) (ds : List D) (M1 : Mem) (f : D → Option D) : Prop :=
  ds.length < sizeLine ∧ ∀ (d : D) (M' : Mem), d ∈ ds → (∀ a o, M1 a = some o → M' a = some o) → TgD t d fun dvs => Bk X scope fun X' => TXs B X' ifs (gsetAll (gwipe G own) t.slots dvs) M' fun b M3 =>
      if b = true then Bk X scope fun X2 => EX B X2 elt (gsetAll (gwipe G own) t.slots dvs) M3 fun y M4 => M4 = M' ∧ f d = some y else M3 = M' ∧ f d = none
theorem ex_lcp {scope : Scope} {own : List (Str × Nat)} {t : Tg} {ifs : List Expr} (f : D → Option D) (hc : X.calm = true) (hN : X.N.Nodup) (ok : BlkOk X.N X.env.scope scope own) (ht : ∀ i ∈ t.slots, i ∈ own.map (·.2))
    (hg : Bk X scope fun X' => PG X' tg (gTg X.K t)) (hs : ∀ x, foldedSetIterable iter X.env x = pure x)
    (h : LX B X tg iter G M fun ds M1 => LcP B X scope (own.map (·.2)) t ifs elt G ds M1 f ∧ Q (.lst (ds.filterMap f)) M1) : EX B X (.ListComp elt [⟨tg, iter, ifs, 0⟩] scope pos) G M Q :=
  ex_lc (Q := Q) hc hN ok ht hg hs fun F σ H R' r k => h F σ H R' r fun J H' F' ds M1 ⟨lp, q⟩ s r' w => k J H' F' ds M1 (lc_pure (fin := fun acc M2 => Q (.lst acc) M2) f lp.1 (fun i d M' hd hm => lp.2 d M' (List.mem_of_getElem? hd) hm) q) s r' w
/-- .. its list a cell -/
theorem ex_lcpM {scope : Scope} {own : List (Str × Nat)} {t : Tg} {ifs : List Expr} (f : D → Option D) (hc : X.calm = true) (hN : X.N.Nodup) (ok : BlkOk X.N X.env.scope scope own) (ht : ∀ i ∈ t.slots, i ∈ own.map (·.2))
    (hg : Bk X scope fun X' => PG X' tg (gTg X.K t)) (hs : ∀ x, foldedSetIterable iter X.env x = pure x)
    (h : LX B X tg iter G M fun ds M1 => LcP B X scope (own.map (·.2)) t ifs elt G ds M1 f ∧ ∀ l, M1 l = none → Q (.ref l) (mupd M1 l (.lst (ds.filterMap f)))) : EX B X (.ListComp elt [⟨tg, iter, ifs, 0⟩] scope pos) G M Q :=
  ex_lcM (Q := Q) hc hN ok ht hg hs fun F σ H R' r k => h F σ H R' r fun J H' F' ds M1 ⟨lp, q⟩ s r' w => k J H' F' ds M1 (fun L hL => by
    obtain ⟨I, i0, turn, fin⟩ := lc_pure (fin := fun acc M2 => acc = ds.filterMap f ∧ M2 = M1) f lp.1 (fun i d M' hd hm => lp.2 d M' (List.mem_of_getElem? hd) hm) ⟨rfl, rfl⟩ L hL
    refine ⟨I, i0, turn, fun acc M' hI hM => ?_⟩
    obtain ⟨ea, eM⟩ := fin acc M' hI hM
    have e2 : M' = mupd M1 L (.lst acc) := by
      funext b
      unfold mupd
      by_cases hb : b = L
      · subst hb; rw [if_pos rfl]; exact hM
      · rw [if_neg hb, ← eM]; unfold mdel; rw [if_neg hb]
    rw [e2, ea]
    exact q L hL) s r' w
/-- name = a comprehension that changes no cell -/
theorem sx_setLcp {i : Nat} {y : Str} {py spos : Pos} {scope : Scope} {own : List (Str × Nat)} {t : Tg} {ifs : List Expr} (f : D → Option D) (hc : X.calm = true) (hN : X.N.Nodup) (hy : X.N[i]? = some y) (hyl : X.env.scope.names.lookup y = some .local)
    (hsw : swapsWith (.ListComp elt [⟨tg, iter, ifs, 0⟩] scope pos) (some (.Name y py)) spos.line X.env = pure true) (ok : BlkOk X.N X.env.scope scope own) (ht : ∀ i ∈ t.slots, i ∈ own.map (·.2))
    (hg : Bk X scope fun X' => PG X' tg (gTg X.K t)) (hs : ∀ x, foldedSetIterable iter X.env x = pure x)
    (h : LX B X tg iter G M fun ds M1 => LcP B X scope (own.map (·.2)) t ifs elt G ds M1 f ∧ E.nx (G.set i (some (.lst (ds.filterMap f)))) M1) : SX B X (.Assign [.Name y py] (.ListComp elt [⟨tg, iter, ifs, 0⟩] scope pos) spos) E G M :=
  sx_setLc hc hN hy hyl hsw ok ht hg hs fun F σ H R' r k => h F σ H R' r fun J H' F' ds M1 ⟨lp, q⟩ s r' w => k J H' F' ds M1 (lc_pure (fin := fun acc M2 => E.nx (G.set i (some (.lst acc))) M2) f lp.1 (fun i d M' hd hm => lp.2 d M' (List.mem_of_getElem? hd) hm) q) s r' w
end
theorem txs_nil {B : Bs} {X : Cx} {G : Sl} {M : Mem} {Q : Bool → Mem → Prop} (h : Q true M) : TXs B X [] G M Q := h
theorem txs_one {B : Bs} {X : Cx} {c : Expr} {G : Sl} {M : Mem} {Q : Bool → Mem → Prop} (h : TX B X c G M Q) : TXs B X [c] G M Q := h
/-! ### typed lists -/
theorem filterMap_enc {α : Type} {enc : α → D} {f : D → Option D} {g : α → D} : ∀ {xs : List α}, (∀ x ∈ xs, f (enc x) = some (g x)) → (xs.map enc).filterMap f = xs.map g
  | [], _ => rfl
  | x :: xs, h => by
    rw [List.map_cons, List.filterMap_cons, h x (by simp), List.map_cons, filterMap_enc fun y hy => h y (List.mem_cons_of_mem _ hy)]
theorem str_empty_app (x : Str) : Str.empty ++ x = x := by
  cases x with
  | mk c =>
    show Str.mk (_ ++ c) = Str.mk c
    congr 1
    exact Array.empty_append
end FL

/-! == of data that may be laid -/
namespace FL
open PySem PySem.Spec PyProof.Rows L2
mutual
def D.okE : D → Bool
  | .non => true | .bl _ => true | .int _ => true | .str x => PyData.strOk x | .tup ds => okEs ds | .lst ds => okEs ds
  | .ref _ => false | .ty _ => false | .dK _ => false | .dT _ => false | .fzl _ => false
def okEs : List D → Bool
  | [] => true
  | d :: ds => d.okE && okEs ds
end
mutual
def D.dep : D → Nat
  | .tup ds => deps ds + 1 | .lst ds => deps ds + 1
  | .non => 0 | .bl _ => 0 | .int _ => 0 | .str _ => 0 | .ref _ => 0 | .ty _ => 0 | .dK _ => 0 | .dT _ => 0 | .fzl _ => 0
def deps : List D → Nat
  | [] => 0
  | d :: ds => max d.dep (deps ds)
end
mutual
theorem okE_py : ∀ d : D, d.okE = true → d.isPy = true ∧ d.py.canLay0 = true
  | .non, _ => ⟨by unfold D.isPy; rfl, by unfold D.py; rfl⟩
  | .bl _, _ => ⟨by unfold D.isPy; rfl, by unfold D.py; rfl⟩
  | .int _, _ => ⟨by unfold D.isPy; rfl, by unfold D.py; rfl⟩
  | .str x, h => ⟨by unfold D.isPy; rfl, by unfold D.okE at h; unfold D.py PyData.canLay0; exact h⟩
  | .tup ds, h => by
    unfold D.okE at h
    unfold D.isPy D.py PyData.canLay0
    exact okEs_py ds h
  | .lst ds, h => by
    unfold D.okE at h
    unfold D.isPy D.py PyData.canLay0
    exact okEs_py ds h
  | .ref _, h => by unfold D.okE at h; cases h
  | .fzl _, h => by unfold D.okE at h; cases h
  | .ty _, h => by unfold D.okE at h; cases h
  | .dK _, h => by unfold D.okE at h; cases h
  | .dT _, h => by unfold D.okE at h; cases h
theorem okEs_py : ∀ ds : List D, okEs ds = true → arePy ds = true ∧ PyData.canLayAll0 (pys ds) = true
  | [], _ => ⟨by unfold arePy; rfl, by unfold pys PyData.canLayAll0; rfl⟩
  | d :: ds, h => by
    unfold okEs at h
    obtain ⟨h1, h2⟩ := Bool.and_eq_true_iff.mp h
    obtain ⟨a1, a2⟩ := okE_py d h1
    obtain ⟨b1, b2⟩ := okEs_py ds h2
    unfold arePy pys PyData.canLayAll0
    rw [a1, b1, a2, b2]
    exact ⟨rfl, rfl⟩
end
mutual
theorem dep_py : ∀ d : D, d.py.depth ≤ d.dep
  | .non => by unfold D.py PyData.depth; exact Nat.zero_le _
  | .bl _ => by unfold D.py PyData.depth; exact Nat.zero_le _
  | .int _ => by unfold D.py PyData.depth; exact Nat.zero_le _
  | .str _ => by unfold D.py PyData.depth; exact Nat.zero_le _
  | .ref _ => by unfold D.py PyData.depth; exact Nat.zero_le _
  | .fzl _ => by unfold D.py PyData.depth; exact Nat.zero_le _
  | .ty _ => by unfold D.py PyData.depth; exact Nat.zero_le _
  | .dK _ => by unfold D.py PyData.depth; exact Nat.zero_le _
  | .dT _ => by unfold D.py PyData.depth; exact Nat.zero_le _
  | .tup ds => by unfold D.py PyData.depth D.dep; exact Nat.succ_le_succ (deps_py ds)
  | .lst ds => by unfold D.py PyData.depth D.dep; exact Nat.succ_le_succ (deps_py ds)
theorem deps_py : ∀ ds : List D, PyData.depthAll (pys ds) ≤ deps ds
  | [] => by unfold pys PyData.depthAll; exact Nat.zero_le _
  | d :: ds => by
    have h1 := dep_py d
    have h2 := deps_py ds
    unfold pys PyData.depthAll deps
    omega
end
theorem okEq_of {d : D} (h : d.okE = true) (hd : d.dep ≤ 64) : d.okEq = true := by
  obtain ⟨h1, h2⟩ := okE_py d h
  have h3 := dep_py d
  unfold D.okEq SeqAt.shaped
  rw [h1, h2, decide_eq_true (Nat.le_trans h3 hd)]
  rfl
theorem okEs_all {ds : List D} : okEs ds = true ↔ ∀ d ∈ ds, d.okE = true := by
  induction ds with
  | nil => unfold okEs; simp
  | cons d ds ih => unfold okEs; rw [Bool.and_eq_true_iff, ih]; simp
theorem deps_le {ds : List D} {n : Nat} : deps ds ≤ n ↔ ∀ d ∈ ds, d.dep ≤ n := by
  induction ds with
  | nil => unfold deps; simp
  | cons d ds ih =>
    unfold deps
    rw [Nat.max_le, ih]
    simp
theorem okEq_lst {ds : List D} {n : Nat} (h : ∀ d ∈ ds, d.okE = true ∧ d.dep ≤ n) (hn : n < 64) : (D.lst ds).okEq = true := by
  refine okEq_of ?_ ?_
  · unfold D.okE; exact okEs_all.mpr fun d hd => (h d hd).1
  · unfold D.dep
    have := deps_le.mpr fun d hd => (h d hd).2
    omega
theorem okEq_tup {ds : List D} {n : Nat} (h : ∀ d ∈ ds, d.okE = true ∧ d.dep ≤ n) (hn : n < 64) : (D.tup ds).okEq = true := by
  refine okEq_of ?_ ?_
  · unfold D.okE; exact okEs_all.mpr fun d hd => (h d hd).1
  · unfold D.dep
    have := deps_le.mpr fun d hd => (h d hd).2
    omega
theorem okEq_nil : (D.lst []).okEq = true := okEq_lst (n := 0) (by simp) (by decide)
def eqDs (ds es : List D) : Bool := PyData.eqvAll (pys ds) (pys es)
theorem eqD_lst (ds es : List D) : eqD (.lst ds) (.lst es) = eqDs ds es := by unfold eqD D.py PyData.eqv; rfl
theorem eqD_tup (ds es : List D) : eqD (.tup ds) (.tup es) = eqDs ds es := by unfold eqD D.py PyData.eqv; rfl
theorem eqD_int (i j : Int) : eqD (.int i) (.int j) = (i == j) := by unfold eqD D.py PyData.eqv; rfl
theorem eqD_str (x y : Str) : eqD (.str x) (.str y) = (x == y) := by unfold eqD D.py PyData.eqv; rfl
theorem eqDs_nil : eqDs [] [] = true := by unfold eqDs pys PyData.eqvAll; rfl
theorem eqDs_cons (d e : D) (ds es : List D) : eqDs (d :: ds) (e :: es) = (eqD d e && eqDs ds es) := by unfold eqDs; rw [pys, pys, PyData.eqvAll]; rfl
theorem eqDs_cn (d : D) (ds : List D) : eqDs (d :: ds) [] = false := by unfold eqDs; rw [pys, pys, PyData.eqvAll]
theorem eqDs_nc (d : D) (ds : List D) : eqDs [] (d :: ds) = false := by unfold eqDs; rw [pys, pys, PyData.eqvAll]
theorem eqDs_nil_r : ∀ ds : List D, eqDs ds [] = ds.isEmpty
  | [] => eqDs_nil
  | d :: ds => eqDs_cn d ds
theorem eqDs_enc {α : Type} [DecidableEq α] {enc : α → D} (h : ∀ x y, eqD (enc x) (enc y) = decide (x = y)) : ∀ xs ys : List α, eqDs (xs.map enc) (ys.map enc) = decide (xs = ys)
  | [], [] => eqDs_nil
  | [], y :: ys => by rw [List.map_cons]; exact (eqDs_nc _ _).trans (decide_eq_false (by simp)).symm
  | x :: xs, [] => by rw [List.map_cons]; exact (eqDs_cn _ _).trans (decide_eq_false (by simp)).symm
  | x :: xs, y :: ys => by
    rw [List.map_cons, List.map_cons, eqDs_cons, h, eqDs_enc h xs ys]
    by_cases e1 : x = y
    · by_cases e2 : xs = ys <;> simp [e1, e2]
    · simp [e1]
theorem eqD_int' (i j : Int) : eqD (.int i) (.int j) = decide (i = j) := by rw [eqD_int]; exact Bool.beq_eq_decide_eq i j
theorem eqD_str' (x y : Str) : eqD (.str x) (.str y) = decide (x = y) := by rw [eqD_str]; exact Bool.beq_eq_decide_eq x y
section
variable {B : Bs} {X : Cx} {G : Sl} {M : Mem} {Q : D → Mem → Prop} {d : D} {pos : Pos}
/-- compared with [] -/
theorem ex_cmp0 {op : CmpOp} (h : OX B X (compareOp op) d (.lst []) G M Q) : EX B X (.List [] pos) G M fun y M2 => OX B X (compareOp op) d y G M2 Q := ex_lst (ax_nil ⟨Nat.zero_le _, h⟩)
theorem ox_ne0 {ds : List D} {n : Nat} (hu : X.A.units + 64 < cLine) (h : ∀ d ∈ ds, d.okE = true ∧ d.dep ≤ n) (hn : n < 64) (q : Q (.bl (!ds.isEmpty)) M) : OX B X (compareOp .NotEq) (.lst ds) (.lst []) G M Q :=
  ox_neD hu (okEq_lst h hn) okEq_nil (by rw [eqD_lst, eqDs_nil_r]; exact q)
theorem ox_eq0 {ds : List D} {n : Nat} (hu : X.A.units + 64 < cLine) (h : ∀ d ∈ ds, d.okE = true ∧ d.dep ≤ n) (hn : n < 64) (q : Q (.bl ds.isEmpty) M) : OX B X (compareOp .Eq) (.lst ds) (.lst []) G M Q :=
  ox_eqD hu (okEq_lst h hn) okEq_nil (by rw [eqD_lst, eqDs_nil_r]; exact q)
end
end FL

/-! the head by facts, over data -/
namespace FL
open PySem PySem.Spec PyProof.Rows L2
theorem fun_of {K : PySem.W.Frag} {x qual : Str} {st : Stmt} {f : Addr} {fd : FuncData} (F : FunD K x qual (defArgs st) (defBody st) (defScope st) [] [] f fd) : Fun K x qual st f fd := by
  obtain ⟨oc, od, dV, kV, doc, pm, an, cdv, ct, osl, e, lk, hcd, hD, hK⟩ := F.ex
  rcases hD with ⟨_, rfl⟩ | ⟨z, _⟩
  · exact ⟨⟨oc, od, kV, doc, pm, an, cdv, ct, osl, e, lk, hcd⟩, F.kp⟩
  · exact absurd rfl z
def defAt (p : Str × Option Str) (name qual : Str) (st : Stmt) : He.DefD := ⟨p, name, qual, defArgs st, defBody st, defScope st, [], []⟩
/-- the law: at every script it tells True -/
def spTrue : DSp := fun ds M Q => ∃ ns : List Int, ds = [.fzl (ns.map D.int)] ∧ ns.length ≤ 63 ∧ M = noM ∧ ∀ M', Q (.bl true) M'
theorem law_sp {K : PySem.W.Frag} {H : Hp} {a : Addr} {ns : List Int} {E : XK} (hl : ns.length ≤ 63) (hS : SqL K H a (ns.map V.int)) : lift K spTrue [.ref a] H (fun v _ => v = .bl true) E :=
  ⟨H, [.fzl (ns.map D.int)], noM, fun d _ => d = .bl true, .cons (.fzl hS RpAll.ints) .nil, Same.refl H, (fun a o z => by cases z), ⟨ns, rfl, hl, rfl, fun _ => rfl⟩, fun d M' e v H' F' _ _ _ _ rp => by subst e; cases rp; rfl⟩
section
variable {K : PySem.W.Frag} {h : Heap} {mg : Str → Option Value} (X : K.In h) (G : h.Ns mainGlobals mg)
include X G
theorem cst_int {x : Str} {i : Int} (c : (He.Fa.int x i).ok K = true) : Cst K mg x (.int i) := by
  obtain ⟨t, e⟩ := He.int_ok X G c
  exact ⟨_, .int i, e, ⟨t, rfl⟩, fun F => .int i⟩
theorem cst_str {x z : Str} (c : (He.Fa.str x z).ok K = true) : Cst K mg x (.str z) := by
  obtain ⟨t, e⟩ := He.str_ok X G c
  exact ⟨_, .str z, e, ⟨t, rfl⟩, fun F => .str z⟩
theorem cst_tup {x : Str} {zs : List Str} (c : (He.Fa.glo x).ok K = true) (t : He.tupB K x (zs.map He.Dv.str) = true) : Cst K mg x (.tup (zs.map D.str)) := by
  refine ⟨_, .ref (He.ga K x), He.glo_ok X G c, rfl, fun F => ?_⟩
  have e : (zs.map He.Dv.str).map (He.Dv.v K) = zs.map V.str := by
    rw [List.map_map]; rfl
  have s := He.tupB_ok t F
  rw [e] at s
  exact .tup s RpAll.strs
end
theorem dfn_mk {P : Program} {w : World} {K : PySem.W.Frag} {mg : Str → Option Value} {base : Heap} {k : Nat} {x : Str} {sp : DSp} {f : Addr} {fd : FuncData} {ps : List Str} (h : FnOk P w K mg base CX0 k f fd ps (lift K sp)) (g : mg x = some (.ref f)) (kp : PySem.W.keepIn K (.ref f) = true) (b : Binds K fd ps []) : Dfn P w K mg base k x sp := ⟨f, fd, ps, h, g, kp, b⟩
end FL

namespace FL
open PySem PySem.Spec PyProof.Rows L2
mutual
/-- data that may be compared place by place -/
def D.okA : D → Bool
  | .non => true | .bl _ => true | .int _ => true | .str _ => true
  | .tup ds => decide (ds.length ≤ 100000) && okAs ds
  | .lst ds => decide (ds.length ≤ 100000) && okAs ds
  | .ref _ => false | .ty _ => false | .dK _ => false | .dT _ => false | .fzl _ => false
def okAs : List D → Bool
  | [] => true
  | d :: ds => d.okA && okAs ds
end
theorem okAs_all {ds : List D} : okAs ds = true ↔ ∀ d ∈ ds, d.okA = true := by
  induction ds with
  | nil => unfold okAs; simp
  | cons d ds ih => unfold okAs; rw [Bool.and_eq_true_iff, ih]; simp
theorem okA_tup {ds : List D} (hl : ds.length ≤ 100000) (h : ∀ d ∈ ds, d.okA = true) : (D.tup ds).okA = true := by
  unfold D.okA; rw [decide_eq_true hl, okAs_all.mpr h]; rfl
theorem okA_lst {ds : List D} (hl : ds.length ≤ 100000) (h : ∀ d ∈ ds, d.okA = true) : (D.lst ds).okA = true := by
  unfold D.okA; rw [decide_eq_true hl, okAs_all.mpr h]; rfl
theorem okA_tup' {ds : List D} (h : (D.tup ds).okA = true) : ds.length ≤ 100000 ∧ ∀ d ∈ ds, d.okA = true := by
  unfold D.okA at h
  obtain ⟨h1, h2⟩ := Bool.and_eq_true_iff.mp h
  exact ⟨of_decide_eq_true h1, okAs_all.mp h2⟩
theorem okA_lst' {ds : List D} (h : (D.lst ds).okA = true) : ds.length ≤ 100000 ∧ ∀ d ∈ ds, d.okA = true := by
  unfold D.okA at h
  obtain ⟨h1, h2⟩ := Bool.and_eq_true_iff.mp h
  exact ⟨of_decide_eq_true h1, okAs_all.mp h2⟩
theorem dep_tup {ds : List D} {n : Nat} : (D.tup ds).dep ≤ n ↔ 1 ≤ n ∧ ∀ d ∈ ds, d.dep ≤ n - 1 := by
  have e : (D.tup ds).dep = deps ds + 1 := by unfold D.dep; rfl
  rw [e, ← deps_le]
  omega
theorem dep_lst {ds : List D} {n : Nat} : (D.lst ds).dep ≤ n ↔ 1 ≤ n ∧ ∀ d ∈ ds, d.dep ≤ n - 1 := by
  have e : (D.lst ds).dep = deps ds + 1 := by unfold D.dep; rfl
  rw [e, ← deps_le]
  omega
theorem okA_tyd {d : D} (h : d.okA = true) : d.tyd = true := by
  cases d <;> first | rfl | (unfold D.okA at h; cases h)
theorem filterMap_none {ds : List D} : ds.filterMap (fun _ => (none : Option D)) = [] := by
  induction ds with
  | nil => rfl
  | cons d ds ih => simpa using ih
section
variable {CX : CXT} {P : Program} {w : World} {K : PySem.W.Frag} {mg : Str → Option Value} {base : Heap} {N : List Str} {qual : Str} {sc : Scope} {f : Addr} {cdv : Value} {A : Around} {outer : List Env} {s : Shared} {H : Hp} {E : XK} {x : Str}
theorem Blt.fn {v : Value} (m : mg x = none) (g : Gl (cxOf CX P w K mg base N qual sc f cdv A outer s H E).nox x) (b : bootBuiltins x = some v) (n : x ≠ "__name__" := by decide) (d : (x == ("__debug__" : Str)) = false := by decide) : Blt (cxOf CX P w K mg base N qual sc f cdv A outer s H E).nox x v := ⟨g, m, b, n, d⟩
theorem Gb.fn {d : D} (m : Cst K mg x d) (g : Gl (cxOf CX P w K mg base N qual sc f cdv A outer s H E).nox x) (hd : (x == ("__debug__" : Str)) = false := by decide) : Gb (cxOf CX P w K mg base N qual sc f cdv A outer s H E).nox x d := ⟨g, m, hd⟩
theorem Dfn.fn {k : Nat} {sp : DSp} (h : Dfn P w K mg base k x sp) : Dfn (cxOf CX P w K mg base N qual sc f cdv A outer s H E).nox.prog (cxOf CX P w K mg base N qual sc f cdv A outer s H E).nox.w (cxOf CX P w K mg base N qual sc f cdv A outer s H E).nox.K (cxOf CX P w K mg base N qual sc f cdv A outer s H E).nox.mg (cxOf CX P w K mg base N qual sc f cdv A outer s H E).nox.base k x sp := h
variable {s1 : Shared} {H1 : Hp} {sc1 : Scope} {cenv : Env} {fp : List Addr}
theorem Blt.fnb {v : Value} (m : mg x = none) (g : Gl ((cxOf CX P w K mg base N qual sc f cdv A outer s H E).nox.blk s1 H1 sc1 cenv fp) x) (b : bootBuiltins x = some v) (n : x ≠ "__name__" := by decide) (d : (x == ("__debug__" : Str)) = false := by decide) : Blt ((cxOf CX P w K mg base N qual sc f cdv A outer s H E).nox.blk s1 H1 sc1 cenv fp) x v := ⟨g, m, b, n, d⟩
theorem Gb.fnb {d : D} (m : Cst K mg x d) (g : Gl ((cxOf CX P w K mg base N qual sc f cdv A outer s H E).nox.blk s1 H1 sc1 cenv fp) x) (hd : (x == ("__debug__" : Str)) = false := by decide) : Gb ((cxOf CX P w K mg base N qual sc f cdv A outer s H E).nox.blk s1 H1 sc1 cenv fp) x d := ⟨g, m, hd⟩
theorem Dfn.fnb {k : Nat} {sp : DSp} (h : Dfn P w K mg base k x sp) : Dfn ((cxOf CX P w K mg base N qual sc f cdv A outer s H E).nox.blk s1 H1 sc1 cenv fp).prog ((cxOf CX P w K mg base N qual sc f cdv A outer s H E).nox.blk s1 H1 sc1 cenv fp).w ((cxOf CX P w K mg base N qual sc f cdv A outer s H E).nox.blk s1 H1 sc1 cenv fp).K ((cxOf CX P w K mg base N qual sc f cdv A outer s H E).nox.blk s1 H1 sc1 cenv fp).mg ((cxOf CX P w K mg base N qual sc f cdv A outer s H E).nox.blk s1 H1 sc1 cenv fp).base k x sp := h
end
theorem Dfn.blk {X : Cx} {k : Nat} {x : Str} {sp : DSp} {s : Shared} {H : Hp} {scope : Scope} {cenv : Env} {fp : List Addr} (h : Dfn X.prog X.w X.K X.mg X.base k x sp) : Dfn (X.blk s H scope cenv fp).prog (X.blk s H scope cenv fp).w (X.blk s H scope cenv fp).K (X.blk s H scope cenv fp).mg (X.blk s H scope cenv fp).base k x sp := h
section
variable {B : Bs} {X : Cx} {G : Sl} {M : Mem} {Q : D → Mem → Prop}
theorem ex_subL {es : List Expr} {b : Expr} {p pos : Pos} (hs : PlainIx b) (h : AX B X es G M fun xs M1 => xs.length ≤ sizeLine ∧ EX B X b G M1 fun y M2 => IX B X (.lst xs) y G M2 Q) : EX B X (.Subscript (.List es p) b pos) G M Q := ex_sub hs (ex_lst h)
/-- an item at a drawn place -/
theorem ix_lm {ds : List D} {i : Int} (h0 : 0 ≤ i) (h1 : i < ds.length) (q : ∀ d, d ∈ ds → Q d M) : IX B X (.lst ds) (.int i) G M Q := by
  obtain ⟨j, rfl⟩ : ∃ j : Nat, i = (j : Int) := ⟨i.toNat, by omega⟩
  have hj : j < ds.length := by omega
  exact ix_l (d := ds[j]) (atI_of rfl (List.getElem?_eq_getElem hj)) (q _ (List.getElem_mem hj))
theorem ix_tm {ds : List D} {i : Int} (h0 : 0 ≤ i) (h1 : i < ds.length) (q : ∀ d, d ∈ ds → Q d M) : IX B X (.tup ds) (.int i) G M Q := by
  obtain ⟨j, rfl⟩ : ∃ j : Nat, i = (j : Int) := ⟨i.toNat, by omega⟩
  have hj : j < ds.length := by omega
  exact ix_t (d := ds[j]) (atI_of rfl (List.getElem?_eq_getElem hj)) (q _ (List.getElem_mem hj))
theorem ix_li {ns : List Int} {i : Int} (h0 : 0 ≤ i) (h1 : i < ns.length) (q : ∀ n, n ∈ ns → Q (.int n) M) : IX B X (.lst (ns.map D.int)) (.int i) G M Q :=
  ix_lm h0 (by rw [List.length_map]; exact h1) fun d hd => by
    obtain ⟨n, hn, rfl⟩ := List.mem_map.mp hd
    exact q n hn
theorem ix_ls {ns : List Str} {i : Int} (h0 : 0 ≤ i) (h1 : i < ns.length) (q : ∀ n, n ∈ ns → Q (.str n) M) : IX B X (.lst (ns.map D.str)) (.int i) G M Q :=
  ix_lm h0 (by rw [List.length_map]; exact h1) fun d hd => by
    obtain ⟨n, hn, rfl⟩ := List.mem_map.mp hd
    exact q n hn
end
end FL

namespace FL
open PySem PySem.Spec PyProof.Rows L2
/-- the promise of a def that only reads the cells, and tells what is immutable -/
def roSp (sp : DSp) : DSp := fun ds M Q => ∃ es Qd, DeepAll M ds es ∧ sp es noM Qd ∧ ∀ d M', Qd d M' → d.imm = true ∧ Q d M
theorem lift_roSp {K : PySem.W.Frag} {sp : DSp} {vs : List V} {H : Hp} {Q : VK} {E : XK} (h : lift K (roSp sp) vs H Q E) : lift K sp vs H Q E := by
  obtain ⟨F, ds, M, Qd, p, ex, me, ⟨es, Qe, dp, q, hq⟩, kk⟩ := h
  have r : R ⟨F, M, H⟩ K F [] H [] M := ⟨⟨rfl, by simp⟩, ex, me, Same.refl F, Kp.refl M H⟩
  refine ⟨H, es, noM, Qe, dp.rp r p, Same.refl H, (fun _ _ z => by cases z), q, fun d M' qd v H' F' s' k' e' m' rp => ?_⟩
  obtain ⟨hi, hd⟩ := hq d M' qd
  have hs : Same H H' := fun a u h => (k' a u h rfl).1
  obtain ⟨F2, s2, r2, p2⟩ := rp.take_in e' hi (r.heap hs)
  exact kk d M hd v H' F2 r2.bf r2.bk r2.ex r2.mem p2
theorem Dfn.ro {P : Program} {w : World} {K : PySem.W.Frag} {mg : Str → Option Value} {base : Heap} {k : Nat} {x : Str} {sp : DSp} (h : Dfn P w K mg base k x sp) : Dfn P w K mg base k x (roSp sp) := by
  obtain ⟨f, fd, ps, F, m, kp, b⟩ := h.ex
  exact ⟨f, fd, ps, F.imp fun vs H Q E h => lift_roSp h, m, kp, b⟩
theorem ro1 {sp : DSp} {ds es : List D} {M : Mem} {Q : D → Mem → Prop} (d0 : D) (dp : DeepAll M ds es) (q : sp es noM fun d _ => d = d0) (hi : d0.imm = true) (k : Q d0 M) : roSp sp ds M Q :=
  ⟨es, _, dp, q, fun d M' e => by subst e; exact ⟨hi, k⟩⟩
theorem eqD_self {d : D} (h : d.okE = true) : eqD d d = true := SeqAt.eqv_refl _ (okE_py d h).2
end FL

/-! enumerate over a tuple -/
namespace FL
open PySem PySem.Spec PyProof.Rows L2
set_option maxHeartbeats 1000000 in
theorem newEnum1 {v : Value} {ob : Obj} {Hh : Heap → Prop} (Bg : Begins v ob Hh) :
    Meets (Builtin.«enumerate.__new__» ⟨[.type "enumerate", v], []⟩) (fun _ R s => Hh s.heap ∧
      R (.ok (.ret (.ref (s.heap.push ob).objs.size))) { s with heap := (s.heap.push ob).push { cls := .type "enumerate", data := .fields #[.none, .bool false, .ref s.heap.objs.size, rawInt 0, .none, .none] } }) :=
  .of_wp fun prog w A R s h => by
    obtain ⟨hp, g, d, tk, os⟩ := s
    obtain ⟨h1, h⟩ := h
    have hsub := sub_enumerate
    have q1 : ∀ {A' : Around} {E : Value → Shared → Prop} {Q : Value → Shared → Prop}, Q (.ref hp.objs.size) ⟨hp.push ob, g, d, tk, os⟩ → wpAny (model prog w) A' (pyIter v) Q E ⟨hp, g, d, tk, os⟩ := fun q => Bg.iter prog w _ _ ⟨hp, g, d, tk, os⟩ _ h1 q
    wp_walk using q1
    refine wpAny_stack_any fun st => wpAny_pure ?_
    split
    · rename_i c _ _ _ _ _
      cases (c == Value.type "enumerate") <;> (wp_walk using q1; exact ⟨_, rfl, h⟩)
    · wp_walk using q1; exact ⟨_, rfl, h⟩
theorem callEnum1 {prog : Program} {w : World} {A : Around} {E : Value → Shared → Prop} {s : Shared} {v : Value} {ob : Obj} {Hh : Heap → Prop} {Q : Value → Shared → Prop} (Bg : Begins v ob Hh) (h1 : Hh s.heap)
    (h : ∀ h', IsEnum h' (s.heap.objs.size + 1) s.heap.objs.size 0 .none → h'.get? s.heap.objs.size = some ob → h'.objs.size = s.heap.objs.size + 2 → (∀ b o, s.heap.get? b = some o → h'.get? b = some o) → Q (.ref (s.heap.objs.size + 1)) { s with heap := h' }) :
    wpAny (model prog w) A (call (.type "enumerate") [v]) Q E s := by
  refine callType_new F.called_enumerate (by decide) (F.typeCall_enumerate_1 _) (F.newCall_enumerate_1 _) (fun obj => F.args_object_init_2 obj _) F.entry_enumerate_new (newEnum1 Bg) ⟨h1, ?_⟩
  have hz : (s.heap.push ob).objs.size = s.heap.objs.size + 1 := Heap.size_push ..
  show _ ∧ _
  rw [hz]
  have he : IsEnum ((s.heap.push ob).push { cls := .type "enumerate", data := .fields #[.none, .bool false, .ref s.heap.objs.size, rawInt 0, .none, .none] }) (s.heap.objs.size + 1) s.heap.objs.size 0 .none := by
    have z := Heap.get?_push_size (s.heap.push ob) (o := { cls := .type "enumerate", data := .fields #[.none, .bool false, .ref s.heap.objs.size, rawInt 0, .none, .none] }) rfl
    rw [hz] at z
    exact z
  exact ⟨⟨_, he, rfl⟩, h _ he (Heap.get?_push_of_some _ (Heap.get?_push_size _ Bg.free)) (by rw [Heap.size_push, hz]) fun b o x => Heap.get?_push_of_some _ (Heap.get?_push_of_some _ x)⟩
/-- a tuple at a, each item in a new pair -/
def IteT (K : PySem.W.Frag) (a : Addr) : It :=
  ⟨fun i H => ∃ (xs : List V) (x : V), SqT K H a xs ∧ xs[i]? = some x, fun i H v H' => ∃ T x, v = .ref T ∧ H T = none ∧ H' = upd H T (.tup [.int (i : Nat), x]) ∧ ∀ xs, SqT K H a xs → xs[i]? = some x, fun i H => ∃ xs : List V, SqT K H a xs ∧ xs.length ≤ i⟩
theorem tup_ne_iter {h : Heap} {a it t : Addr} {items : Array Value} {i : Nat} (p : h.IsTuple a items) (q : h.IsTupleIter it t i) : a ≠ it := fun e => by
  obtain ⟨o, h1, c1, _⟩ := p
  obtain ⟨u, h2, c2, _⟩ := q
  rw [e, h2] at h1
  cases h1
  rw [c2] at c1
  exact absurd (Value.type.inj c1) (by decide)
theorem tup_ne_enum {h : Heap} {a e it : Addr} {items : Array Value} {i : Int} {old : Value} (p : h.IsTuple a items) (q : IsEnum h e it i old) : a ≠ e := fun z => by
  obtain ⟨o, h1, c1, _⟩ := p
  rw [z, q] at h1
  cases h1
  exact absurd (Value.type.inj c1) (by decide)
theorem turn_enumT {P : Program} {w : World} {K : PySem.W.Frag} {elts : List Expr} {kk : Nat} {tpos : Pos} (a e it : Addr) :
    Turn P w K (.Tuple elts kk tpos) (IteT K a) [e, it] e (fun i h => (∃ old, IsEnum h e it ((i : Nat) : Int) old) ∧ h.IsTupleIter it a i ∧ e ≠ it) where
  mem := by simp
  obj := fun i h st b hb => by
    obtain ⟨⟨old, he⟩, ⟨o, ho, hc, hd⟩, _⟩ := st
    rcases (by simpa using hb : b = e ∨ b = it) with z | z
    · rw [z]; exact ⟨_, he, fun v q => nomatch q⟩
    · rw [z]; exact ⟨o, ho, fun v q => by rw [hd] at q; cases q⟩
  keep := fun i h h' st k => by
    obtain ⟨⟨old, he⟩, hi, hne⟩ := st
    exact ⟨⟨old, k e (by simp) _ he⟩, hi.at fun o q => k it (by simp) o q, hne⟩
  item := by
    intro X hP hw hK hc i pins s σ H E I hf st hg
    subst hP; subst hw; subst hK
    obtain ⟨⟨old, he⟩, hit, hne⟩ := st
    obtain ⟨xs, x, hq, hx⟩ := hg
    obtain ⟨its, rv, p, hz⟩ := I.tuple hq
    have p' : s.heap.IsTuple a its.toArray := p
    obtain ⟨u, hu, ru⟩ := rv.get hx
    have hel : e < s.heap.objs.size := Heap.lt_size he
    have hil : it < s.heap.objs.size := by obtain ⟨_, q, _⟩ := hit; exact Heap.lt_size q
    have n1 := tup_ne_iter p' hit
    have n2 := tup_ne_enum p' he
    have hlt : i < its.toArray.size := by
      have := (List.getElem?_eq_some_iff.mp hu).1
      simpa using this
    refine wpAny_pyNext_enum_itemD (Draws.tuple (prog := X.prog) (w := X.w) (A := X.A.in1) (I.ok.hd hc) it a n1 its.toArray) he ⟨hit, p'⟩ hlt hne (by simp only [List.mem_cons, List.not_mem_nil, or_false, not_or]; exact ⟨hne, Ne.symm n2⟩) fun y h' tk hy ho st2 hT hsz hk => ?_
    have ey : y = u := by
      have z : its.toArray[i]? = some u := by simpa using hu
      rw [z] at hy
      exact (Option.some.inj hy).symm
    subst ey
    refine ⟨_, rfl, wpAny_letOwnedTupleGo_enum (s := { s with heap := h', toks := tk + 1 }) ho fun h'' he' sb => ?_⟩
    have hT2 : h''.get? s.heap.objs.size = some { cls := .type "tuple", data := .seq #[.int i tk, y] } := (sb.2 _ (Nat.ne_of_gt hel)).trans hT
    have new : ObjOk X.prog X.w (upd H s.heap.objs.size (.tup [.int (i : Nat), x])) h'' s.heap.objs.size (.tup [.int (i : Nat), x]) :=
      ⟨(by show 2 ≤ sizeLine; decide), [.int i tk, y], .cons ⟨_, rfl⟩ (.cons ru .nil), ⟨_, hT2, rfl, _, rfl⟩⟩
    have I1 : Inv X pins σ (upd H s.heap.objs.size (.tup [.int (i : Nat), x])) { s with heap := h'', toks := tk + 1 } :=
      I.turnedNew (ch := [e, it]) (fun b ob hb q => (sb.2 b (fun z => hb (by simp [z]))).trans (hk b ob (fun z => hb (by simp [z])) (fun z => hb (by simp [z])) q)) hf (Nat.le_refl _) new
    refine ⟨.ref s.heap.objs.size, _, I1, rfl, ⟨_, x, rfl, I.hok.fresh (Nat.le_refl _), rfl, fun ys hy => by rw [I.tuple_inj hy hq]; exact hx⟩, ⟨⟨y, ?_⟩, st2.1.at fun o q => (sb.2 it (Ne.symm hne)).trans q, hne⟩, fun b hb => ?_⟩
    · have e1 : ((i + 1 : Nat) : Int) = (i : Int) + 1 := by omega
      rw [e1]; exact he'
    · have hb' : b < s.heap.objs.size := by
        rcases (by simpa using hb : b = e ∨ b = it) with z | z
        · rw [z]; exact hel
        · rw [z]; exact hil
      rw [upd_ne (Nat.ne_of_lt hb')]
      exact (hf b hb).1
  done := by
    intro X hP hw hK hc i pins s σ H E I hf st hg
    subst hP; subst hw; subst hK
    obtain ⟨⟨old, he⟩, hit, hne⟩ := st
    obtain ⟨xs, hq, hx⟩ := hg
    obtain ⟨its, rv, p, hz⟩ := I.tuple hq
    have p' : s.heap.IsTuple a its.toArray := p
    obtain ⟨f0, f1, f2, f3, f4, f5⟩ := hf it (by simp)
    have hl := rv.length
    have n1 := tup_ne_iter p' hit
    have hT : s.TypeIs (.ref e) "enumerate" := ⟨_, he, rfl⟩
    unfold pyNext
    refine wpAny_bind (wpAny_attempt (wpAny_callSpecial?_slot (name := Str.ofString "__next__") hT F.slot_enumerate_next (wpAny_call_entry F.slot_enumerate_next hT F.entry_enumerate_next ?_ (F.args_enumerate_next_1 _))))
    show wpAny _ _ (field (.ref e) 2 >>= _) _ _ _
    refine wpAny_bind (wpAny_field he rfl (x := .ref it) rfl ?_)
    refine wpAny_bind (wpAny_nextOf_tuple_end (I.ok.hd hc) hit p' (by simp; omega) fun h' x he' hx' => ?_)
    obtain ⟨o, ho, hc2⟩ := hx'
    refine wpAny_bind (wpAny_isInstance (T := "StopIteration") (b := true) ⟨o, ho, hc2⟩ isSubtype_stop ?_)
    exact wpAny_pure ⟨rfl, I.turned (t' := s.toks) (fun b o hb q => he' b o hb q) f0 f1 f3 f4 f5⟩
  self := fun A i s Q E st h => by
    obtain ⟨⟨_, he⟩, _⟩ := st
    exact wpAny_pyIter_enum he h
def iEnumT (K : PySem.W.Frag) (ta : TA) : TI := fun σ H R => ta σ H fun vs H1 => ∃ a xs, vs = [.ref a] ∧ SqT K H1 a xs ∧ R (IteT K a) H1
theorem pi_enumT {X : Cx} {e : Expr} {ta : TA} {p pos tpos : Pos} {elts : List Expr} {kk : Nat} (hg : Gl X "enumerate") (hm : X.mg "enumerate" = none) (ha : PA X [e] ta) (hs : starEach [e] X.env = [(false, eval e X.env)]) :
    PI X (.Tuple elts kk tpos) (.Call (.Name "enumerate" p) [e] [] pos) (iEnumT X.K ta) := by
  refine ⟨fun pins s σ H R I h => ?_⟩
  refine Call_ (ld_blt I hg hm boot_enumerate (PyProof.Rows.callWith_type1 (thn (ha.run pos pins s σ H _ I h) fun us s1 ⟨vs, H1, I1, r1, q1⟩ => ?_) hs rfl))
  obtain ⟨a, xs, ex, hq, q⟩ := q1
  subst ex
  cases r1 with
  | cons r rr =>
    cases rr
    cases r
    obtain ⟨its, rv, p', hz⟩ := I1.tuple hq
    refine callEnum1 (begins_tuple a its.toArray) p' fun h' he hit hsz hk => wpAny_pyIter_enum he ?_
    have I2 : Inv X pins σ H1 { s1 with heap := h' } := I1.kept (t' := s1.toks) hk
    refine ⟨s1.heap.objs.size + 1, [s1.heap.objs.size + 1, s1.heap.objs.size], _, _, H1, rfl, I2, turn_enumT a (s1.heap.objs.size + 1) s1.heap.objs.size, ⟨⟨.none, he⟩, ⟨_, hit, rfl, rfl⟩, Nat.succ_ne_self _⟩, fun b hb => ?_, q⟩
    have hle : s1.heap.objs.size ≤ b := by
      rcases (by simpa using hb : b = s1.heap.objs.size + 1 ∨ b = s1.heap.objs.size) with z | z
      · rw [z]; exact Nat.le_add_right _ _
      · rw [z]; exact Nat.le_refl _
    exact I1.fpOk hle (I1.hok.fresh hle)
section
variable {B : Bs} {X : Cx} {e tg : Expr} {G : Sl} {M : Mem} {Q : List D → Mem → Prop} {pos p : Pos} {F : Hp} {σ : L2.St}
theorem wk_enumT {K : PySem.W.Frag} {a : Addr} {xs : List V} {ds : List D} (h : SqT K F a xs) (r : RpAll K F xs ds) : Wk K F (IteT K a) (enumD ds) where
  goes := fun i H hi s => by
    rw [enumD_len] at hi
    exact ⟨xs, xs[i]'(by rw [r.length]; exact hi), sq_same s h, by simp [r.length, hi]⟩
  stops := fun H s => ⟨xs, sq_same s h, by rw [r.length, enumD_len]; exact Nat.le_refl _⟩
  yields := fun i H x H' hi s y => by
    obtain ⟨T, u, h1, h2, h3, h4⟩ := y
    subst h1; subst h3
    obtain ⟨d, hd, rd⟩ := r.getV (h4 xs (sq_same s h))
    exact ⟨_, enumD_get hd, fun B F1 σ G M s1 r1 => pair_new r1 h2 (.int _) (rd.mono s1)⟩
theorem lx_enumT (hg : Gl X "enumerate") (hm : X.mg "enumerate" = none) (hs : starEach [e] X.env = [(false, eval e X.env)]) (ht : ∃ es k pp, tg = .Tuple es k pp)
    (h : EX B X e G M fun d M1 => ∃ ds, d = .tup ds ∧ Q (enumD ds) M1) : LX B X tg (.Call (.Name "enumerate" p) [e] [] pos) G M Q := fun F σ H R' r k => by
  obtain ⟨es, kk, pp, rfl⟩ := ht
  refine WIt.of (pi_enumT hg hm (pa_cons pe_we pa_nil (by rw [hs]; rfl)) hs) (h F σ H _ r fun v H1 F1 d1 M1 ⟨ds, e1, q⟩ s1 r1 p1 => ?_)
  subst e1
  cases p1 with
  | @tup a xs _ hs rs => exact ⟨a, xs, rfl, sq_same r1.ex hs, k _ _ F1 _ M1 q s1 r1 (wk_enumT hs rs)⟩
end
end FL

/-! sequences: +, *, slices, max, methods of lists -/
namespace FL
open PySem PySem.Spec PyProof.Rows L2
/-- a list of ds: frozen, or a cell -/
def IsL (M : Mem) (d : D) (ds : List D) : Prop := d = .lst ds ∨ ∃ l, d = .ref l ∧ M l = some (.lst ds)
theorem IsL.fz {M : Mem} {ds : List D} : IsL M (.lst ds) ds := .inl rfl
theorem IsL.ce {M : Mem} {l : Addr} {ds : List D} (h : M l = some (.lst ds)) : IsL M (.ref l) ds := .inr ⟨l, rfl, h⟩
/-- the cells are there as they were -/
def Ext (M M' : Mem) : Prop := ∀ a o, M a = some o → M' a = some o
theorem Ext.refl (M : Mem) : Ext M M := fun _ _ h => h
theorem Ext.trans {M M1 M2 : Mem} (h : Ext M M1) (g : Ext M1 M2) : Ext M M2 := fun a o e => g a o (h a o e)
theorem Ext.new {M : Mem} {l : Addr} {o : MO} (h : M l = none) : Ext M (mupd M l o) := fun a u e => by rw [mupd_ne (mne e h)]; exact e
theorem Ext.del {M M' : Mem} {l : Addr} (h : M l = none) (e : Ext M M') : Ext M (mdel M' l) := fun a u q => by
  unfold mdel
  rw [if_neg (mne q h)]
  exact e a u q
theorem Ext.free {M M' : Mem} {l : Addr} (e : Ext M M') (h : M' l = none) : M l = none := by
  cases q : M l with
  | none => rfl
  | some o => rw [e l o q] at h; cases h
section
variable {B : Bs} {X : Cx} {G : Sl} {M : Mem} {Q : D → Mem → Prop} {F H : Hp} {σ : L2.St} {d d2 : D} {ds es : List D} {v : V} {e : Expr} {pos p2 apos : Pos} {lo hi : Option Expr} {K : PySem.W.Frag}
theorem IsL.at (h : IsL M d ds) (r : R B K F σ H G M) (p : Rp K F v d) : ∃ a xs, v = .ref a ∧ H a = some (.lst xs) ∧ RpAll K F xs ds := by
  rcases h with rfl | ⟨l, rfl, hm⟩
  · cases p with
    | @lst a xs _ hs rs => exact ⟨a, xs, rfl, r.ex _ _ hs, rs⟩
  · cases p
    obtain ⟨_, xs, hx, rx⟩ := r.mem l _ hm
    exact ⟨l, xs, rfl, hx, rx⟩
/-! ### + -/
theorem ox_catL (h1 : IsL M d ds) (h2 : IsL M d2 es) (hl : ds.length + es.length ≤ sizeLine) (q : Q (.lst (ds ++ es)) M) : OX B X (binaryOp .Add) d d2 G M Q := fun F σ H Q' v w r p1 p2 k => by
  obtain ⟨a, xs, rfl, hx, rx⟩ := h1.at r p1
  obtain ⟨b, ys, rfl, hy, ry⟩ := h2.at r p2
  exact WO.of op_cat ⟨a, b, xs, ys, rfl, rfl, hx, hy, by rw [rx.length, ry.length]; exact hl, fun p hp => k.new r hp q (.lst upd_same ((rx.append ry).mono (r.new hp).1))⟩
theorem ox_catLM (h1 : IsL M d ds) (h2 : IsL M d2 es) (hl : ds.length + es.length ≤ sizeLine) (q : ∀ l, M l = none → Q (.ref l) (mupd M l (.lst (ds ++ es)))) : OX B X (binaryOp .Add) d d2 G M Q := fun F σ H Q' v w r p1 p2 k => by
  obtain ⟨a, xs, rfl, hx, rx⟩ := h1.at r p1
  obtain ⟨b, ys, rfl, hy, ry⟩ := h2.at r p2
  exact WO.of op_cat ⟨a, b, xs, ys, rfl, rfl, hx, hy, by rw [rx.length, ry.length]; exact hl, fun p hp => k.cell r hp (q p (r.freeM hp)) ⟨_, upd_same, rx.append ry⟩⟩
theorem RpAll.nil_iff {xs : List V} (r : RpAll K F xs ds) : xs = [] ↔ ds = [] := by cases r <;> simp
theorem ox_catT (hl : ds.length + es.length ≤ sizeLine) (q : Q (.tup (ds ++ es)) M) : OX B X (binaryOp .Add) (.tup ds) (.tup es) G M Q := fun F σ H Q' v w r p1 p2 k => by
  cases p1 with
  | @tup a xs _ ha ra =>
    cases p2 with
    | @tup b ys _ hb rb =>
      refine WO.of op_catA ⟨a, b, xs, ys, rfl, rfl, sq_same r.ex ha, sq_same r.ex hb, by rw [ra.length, rb.length]; exact hl, fun z => ?_, fun z z2 => ?_, fun z z2 p hp => ?_⟩
      · have e := ra.nil_iff.mp z
        subst e
        exact k.at r q (.tup hb rb)
      · have e := rb.nil_iff.mp z2
        subst e
        rw [List.append_nil] at q
        exact k.at r q (.tup ha ra)
      · exact k.new r hp q (.tup sq_upd ((ra.append rb).mono (r.new hp).1))
/-! ### * -/
theorem RpAll.rep {n : Nat} {x : V} (h : Rp K F x d) : RpAll K F (List.replicate n [x]).flatten (List.replicate n d) := by
  induction n with
  | zero => exact .nil
  | succ n ih => exact .cons h ih
theorem ox_repL {n : Int} (h1 : n < 100000) (q : Q (.lst (List.replicate n.toNat d)) M) (h0 : 0 ≤ n) : OX B X (binaryOp .Mult) (.lst [d]) (.int n) G M Q := fun F σ H Q' v w r p1 p2 k => by
  cases p2
  obtain ⟨a, xs, rfl, hx, rx⟩ := IsL.fz.at r p1
  obtain ⟨x, rfl, px⟩ := rp1 rx
  refine WO.of op_rep ⟨a, n, [x], rfl, rfl, hx, by omega, by omega, ?_, fun p hp => k.new r hp q (.lst upd_same ((RpAll.rep px).mono (r.new hp).1))⟩
  have : (sizeLine : Nat) ≥ 100000 := by decide
  simp; omega
theorem ox_repLM {n : Int} (h1 : n < 100000) (h0 : 0 ≤ n) (q : ∀ l, M l = none → Q (.ref l) (mupd M l (.lst (List.replicate n.toNat d)))) : OX B X (binaryOp .Mult) (.lst [d]) (.int n) G M Q := fun F σ H Q' v w r p1 p2 k => by
  cases p2
  obtain ⟨a, xs, rfl, hx, rx⟩ := IsL.fz.at r p1
  obtain ⟨x, rfl, px⟩ := rp1 rx
  refine WO.of op_rep ⟨a, n, [x], rfl, rfl, hx, by omega, by omega, ?_, fun p hp => k.cell r hp (q p (r.freeM hp)) ⟨_, upd_same, RpAll.rep px⟩⟩
  have : (sizeLine : Nat) ≥ 100000 := by decide
  simp; omega
theorem tuple_mul1 (l : Addr) (items : Array Value) (n : Nat) (dd : Option Addr) (sl : Array (Option Value)) (u : Tok) :
    Meets (Builtin.«tuple.__mul__» ⟨[.ref l, .int 1 u], []⟩) (fun _ R s => s.heap.get? l = some { cls := .type "tuple", dict := dd, data := .seq items n, slots := sl } ∧ R (.ok (.ret (Value.ref l))) s) :=
  .of_wp fun prog w A R s h => by
    obtain ⟨hp, g, d, tk, os⟩ := s
    obtain ⟨hl, h⟩ := h
    have f1 := AutoSeq1.idx_int
    have c1 : (items.isEmpty || (1 : Int) == 1) = true := by simp
    wp_walk using AutoSeq1.wpAny_loadPart' hl
    repeat (first
      | (refine wpAny_ite_false (decide_eq_false (by decide)) ?_; wp_walk using AutoSeq1.wpAny_loadPart' hl)
      | (refine wpAny_ite_true (decide_eq_true c1) ?_; wp_walk using AutoSeq1.wpAny_loadPart' hl))
    exact ⟨_, rfl, h⟩
theorem op_rep1 : OpR X (binaryOp .Mult) (fun x y H Q => ∃ l xs, x = .ref l ∧ y = .int 1 ∧ SqT X.K H l xs ∧ Q (.ref l) H) := by
  intro pins s σ H x y v u Q I rx ry h
  obtain ⟨l, xs, rfl, rfl, hT, q⟩ := h
  cases rx
  obtain ⟨t, rfl⟩ := ry
  obtain ⟨its, r, ⟨⟨cls, dd, data, sl⟩, ho, hc, n, hd⟩, hs⟩ := I.tuple hT
  simp only at hc hd
  subst hc
  subst hd
  exact wpAny_binaryOp_repeat_ref (T := "tuple") (U := "int") (by decide) ⟨_, ho, rfl⟩ (fun s' => typeIs_int s' 1 t) noFill_tuple_mul F.fills_int_mul F.slot_int_rmul repeat_tuple F.slot_int_index.lookup
    (call_meets F.slot_int_rmul (typeIs_int s 1 t) F.entry_int_rmul (F.args_int_rmul_2 _ _) (int_rmul_tuple 1 t l its.toArray n dd sl)
      ⟨ho, rfl, ⟨_, ho, rfl⟩, call_meets F.slot_tuple_mul ⟨_, ho, rfl⟩ F.entry_tuple_mul (F.args_tuple_mul_2 _ _) (tuple_mul1 l its.toArray n dd sl t) ⟨ho, .ref l, H, I, rfl, q⟩⟩)
theorem ox_repT {n : Int} (h0 : 1 ≤ n) (h1 : n ≤ 1000) (q : Q (.tup (List.replicate n.toNat d)) M) : OX B X (binaryOp .Mult) (.tup [d]) (.int n) G M Q := fun F σ H Q' v w r p1 p2 k => by
  cases p2
  cases p1 with
  | @tup a xs _ ha ra =>
    obtain ⟨x, rfl, px⟩ := rp1 ra
    by_cases hn : n = 1
    · subst hn
      exact WO.of op_rep1 ⟨a, [x], rfl, rfl, sq_same r.ex ha, k.at r q (.tup ha ra)⟩
    · exact WO.of op_repT ⟨a, n, [x], rfl, rfl, sq_same r.ex ha, by simp, by omega, h1, by simp, fun p hp => k.new r hp q (.tup sq_upd ((RpAll.rep px).mono (r.new hp).1))⟩
theorem ex_binL {es : List Expr} {b : Expr} {op : Operator} {p : Pos} (h : AX B X es G M fun xs M1 => xs.length ≤ sizeLine ∧ EX B X b G M1 fun y M2 => OX B X (binaryOp op) (.lst xs) y G M2 Q) : EX B X (.BinOp (.List es p) op b pos) G M Q := ex_bin (ex_lst h)
theorem ex_binR {es : List Expr} {a : Expr} {op : Operator} {p : Pos} (h : EX B X a G M fun x M1 => AX B X es G M1 fun ys M2 => ys.length ≤ sizeLine ∧ OX B X (binaryOp op) x (.lst ys) G M2 Q) : EX B X (.BinOp a op (.List es p) pos) G M Q := ex_bin (h.imp fun _ _ h => ex_lst h)
theorem ux_neg {i : Int} (q : Q (.int (-i)) M) : UX B X (unaryOp .USub) (.int i) G M Q := fun F σ H Q' v r p k => by
  cases p
  exact WU.of un_neg ⟨i, rfl, k.at r q (.int _)⟩
/-! ### slices -/
def cutD (ds : List D) (lo hi : Option Int) : List D := (ds.drop (HT.sIx ds.length 0 lo)).take (HT.sIx ds.length ds.length hi - HT.sIx ds.length 0 lo)
theorem cut_rp {xs : List V} {l u : Option Int} (r : RpAll K F xs ds) : RpAll K F (cutV xs l u) (cutD ds l u) := by
  unfold cutV cutD
  rw [r.length]
  exact (r.drop _).take _
def WSl (X : Cx) : V → Option Int → Option Int → Hp → VK → Prop := fun x lo hi H Q => ∀ (pins : List (Addr × Obj)) (s : Shared) (σ : L2.St) (v vl vu : Value) (sl : Addr), Inv X pins σ H s → RelV x v → s.heap.IsSliceOf sl vl vu .none → IsPart vl lo → IsPart vu hi →
    ∃ T id, typeLookup (.type T) "__getitem__" = pure (some (.builtin id)) ∧ s.TypeIs v T ∧ wpAny (model X.prog X.w) X.A (getItem v (.ref sl)) (EP X pins σ Q) X.xe s
theorem sl_wsl : SlR X (WSl X) := fun pins s σ _ _ v vl vu _ _ sl _ I rx hs pl pu h => h pins s σ v vl vu sl I rx hs pl pu
theorem WSl.of {r : V → Option Int → Option Int → Hp → VK → Prop} {x : V} {l u : Option Int} {H : Hp} {Q : VK} (h : SlR X r) (q : r x l u H Q) : WSl X x l u H Q := fun pins s σ v vl vu sl I rx hs pl pu => h pins s σ H x v vl vu l u sl Q I rx hs pl pu q
def WPO (X : Cx) : Option Expr → TO
  | none => tNoPart
  | some e => tPart (WE X e)
theorem po_wpo : ∀ {p : Option Expr}, PO X p (WPO X p)
  | none => po_none
  | some _ => po_some pe_we
def POX (B : Bs) (X : Cx) : Option Expr → Sl → Mem → (Option Int → Mem → Prop) → Prop
  | none, _, M, Q => Q none M
  | some e, G, M, Q => EX B X e G M fun d M1 => ∃ i, d = .int i ∧ Q (some i) M1
theorem pox_none {Q : Option Int → Mem → Prop} (q : Q none M) : POX B X none G M Q := q
theorem pox_some {Q : Option Int → Mem → Prop} (h : EX B X e G M fun d M1 => ∃ i, d = .int i ∧ Q (some i) M1) : POX B X (some e) G M Q := h
theorem pox_ok {Q : Option Int → Mem → Prop} {Q' : Option Int → Hp → Prop} : ∀ {p : Option Expr}, POX B X p G M Q → R B X.K F σ H G M → (∀ o H' F' M', Q o M' → Same F F' → R B X.K F' σ H' G M' → Q' o H') → WPO X p σ H Q'
  | none, h, r, k => k none H F M h (Same.refl F) r
  | some e, h, r, k => h F σ H _ r fun v H1 F1 d1 M1 ⟨i, e1, q⟩ s1 r1 p1 => by
    subst e1
    cases p1
    exact ⟨i, rfl, k (some i) H1 F1 M1 q s1 r1⟩
def SLX (B : Bs) (X : Cx) (d : D) (lo hi : Option Int) (G : Sl) (M : Mem) (Q : D → Mem → Prop) : Prop := ∀ F σ H Q' v, R B X.K F σ H G M → Rp X.K F v d → KE B X F σ G Q Q' → WSl X v lo hi H Q'
theorem ex_slice (h : EX B X e G M fun d M1 => POX B X lo G M1 fun l M2 => POX B X hi G M2 fun u M3 => SLX B X d l u G M3 Q) : EX B X (.Subscript e (.Slice lo hi none p2) pos) G M Q := fun F σ H Q' r k =>
  WE.of (pe_slice sl_wsl pe_we po_wpo po_wpo) (h F σ H _ r fun v1 H1 F1 d1 M1 q1 s1 r1 p1 => pox_ok q1 r1 fun l H2 F2 M2 q2 s2 r2 => pox_ok q2 r2 fun u H3 F3 M3 q3 s3 r3 =>
    q3 F3 σ H3 Q' v1 r3 (p1.mono (s2.trans s3)) (k.mono (s1.trans (s2.trans s3))))
theorem slx_t {l u : Option Int} (q : Q (.tup (cutD ds l u)) M) : SLX B X (.tup ds) l u G M Q := fun F σ H Q' v r p k => by
  cases p with
  | @tup a xs _ ha ra =>
    refine WSl.of sl_tupA ⟨a, xs, rfl, sq_same r.ex ha, fun z => ?_, fun z p hp => k.new r hp q (.tup sq_upd ((cut_rp ra).mono (r.new hp).1))⟩
    rw [ra.length] at z
    have e : cutD ds l u = ds := by
      unfold cutD
      rw [z.1, z.2]; simp
    rw [e] at q
    exact k.at r q (.tup ha ra)
theorem slx_l {l u : Option Int} (hL : IsL M d ds) (q : Q (.lst (cutD ds l u)) M) : SLX B X d l u G M Q := fun F σ H Q' v r p k => by
  obtain ⟨a, xs, rfl, hx, rx⟩ := hL.at r p
  exact WSl.of sl_list ⟨a, xs, rfl, SqL.of hx, fun p hp => k.new r hp q (.lst upd_same ((cut_rp rx).mono (r.new hp).1))⟩
theorem slx_lM {l u : Option Int} (hL : IsL M d ds) (q : ∀ c, M c = none → Q (.ref c) (mupd M c (.lst (cutD ds l u)))) : SLX B X d l u G M Q := fun F σ H Q' v r p k => by
  obtain ⟨a, xs, rfl, hx, rx⟩ := hL.at r p
  exact WSl.of sl_list ⟨a, xs, rfl, SqL.of hx, fun p hp => k.cell r hp (q p (r.freeM hp)) ⟨_, upd_same, cut_rp rx⟩⟩
theorem slx_s {z : Str} {l u : Option Int} (hz : z.length ≤ sizeLine) (q : Q (.str (cutS z l u)) M) : SLX B X (.str z) l u G M Q := fun F σ H Q' v r p k => by
  cases p
  exact WSl.of sl_str ⟨z, rfl, hz, k.at r q (.str _)⟩
theorem cutD_to {n : Nat} (h : n ≤ ds.length) : cutD ds none (some (n : Int)) = ds.take n := by
  unfold cutD
  rw [HT.sIx_none, HT.sIx_nat, Nat.min_eq_left h]; simp
theorem cutD_from {n : Nat} (h : n ≤ ds.length) : cutD ds (some (n : Int)) none = ds.drop n := by
  unfold cutD
  rw [HT.sIx_none, HT.sIx_nat, Nat.min_eq_left h]
  exact List.take_of_length_le (by rw [List.length_drop]; exact Nat.le_refl _)
theorem cutD_at {n m : Nat} (h : m ≤ ds.length) (h2 : n ≤ m) : cutD ds (some (n : Int)) (some (m : Int)) = (ds.drop n).take (m - n) := by
  unfold cutD
  rw [HT.sIx_nat, HT.sIx_nat, Nat.min_eq_left h, Nat.min_eq_left (Nat.le_trans h2 h)]
/-! ### max, min of lists of ints -/
theorem bx_maxL {ns : List Int} (hc : X.calm = true) (hL : IsL M d (ns.map D.int)) (hn : ns ≠ []) (q : ∀ m, m ∈ ns → (∀ y ∈ ns, y ≤ m) → Q (.int m) M) : BX B X (.builtin "max") [d] G M Q := fun F σ H Q' vs r pa kk => by
  obtain ⟨v, rfl, rp⟩ := rp1 pa
  obtain ⟨a, xs, rfl, hx, rx⟩ := hL.at r rp
  have e := RpAll.ints_of rx
  subst e
  exact WC.of (cr_max hc) ⟨a, ns, rfl, SqL.of hx, List.length_pos_iff.mpr hn, fun m h1 h2 => kk.at r (q m h1 h2) (.int m)⟩
theorem bx_minL {ns : List Int} (hc : X.calm = true) (hL : IsL M d (ns.map D.int)) (hn : ns ≠ []) (q : ∀ m, m ∈ ns → (∀ y ∈ ns, m ≤ y) → Q (.int m) M) : BX B X (.builtin "min") [d] G M Q := fun F σ H Q' vs r pa kk => by
  obtain ⟨v, rfl, rp⟩ := rp1 pa
  obtain ⟨a, xs, rfl, hx, rx⟩ := hL.at r rp
  have e := RpAll.ints_of rx
  subst e
  exact WC.of (cr_min hc) ⟨a, ns, rfl, SqL.of hx, List.length_pos_iff.mpr hn, fun m h1 h2 => kk.at r (q m h1 h2) (.int m)⟩
theorem bx_lenI (hL : IsL M d ds) (q : Q (.int (ds.length : Nat)) M) : BX B X (.builtin "len") [d] G M Q := by
  rcases hL with rfl | ⟨l, rfl, hm⟩
  · exact bx_lenL q
  · exact bx_lenC hm q
theorem bx_listI (hL : IsL M d ds) (q : Q (.lst ds) M) : BX B X (.type "list") [d] G M Q := by
  rcases hL with rfl | ⟨l, rfl, hm⟩
  · exact bx_listL q
  · exact bx_listC hm q
/-! ### methods of list cells -/
theorem mx_extend {l : Addr} (hm : M l = some (.lst ds)) (hL : IsL M d es) (hne : d ≠ .ref l) (hl : ds.length + es.length ≤ sizeLine) (q : Q .non (mupd M l (.lst (ds ++ es)))) : MX B X "list.extend" (.ref l) [d] G M Q := fun F σ H Q' v vs r p1 pa kk => by
  obtain ⟨v2, rfl, rp⟩ := rp1 pa
  cases p1
  obtain ⟨_, xs, hx, rx⟩ := r.mem l _ hm
  obtain ⟨a, ys, rfl, hy, ry⟩ := hL.at r rp
  exact WM.of mt_extend ⟨l, a, xs, ys, rfl, rfl, hx, hy, by rw [rx.length, ry.length]; exact hl, kk _ _ F _ _ q (Same.refl F) (r.write hm ⟨_, upd_same, rx.append ry⟩) .non⟩
theorem mx_popAt {l : Addr} {i : Nat} (hm : M l = some (.lst ds)) (hi : ds[i]? = some d) (hs : i < 1000000) (q : Q d (mupd M l (.lst (ds.eraseIdx i)))) : MX B X "list.pop" (.ref l) [.int (i : Nat)] G M Q := fun F σ H Q' v vs r p1 pa kk => by
  obtain ⟨v2, rfl, rp⟩ := rp1 pa
  cases p1
  cases rp
  obtain ⟨_, xs, hx, rx⟩ := r.mem l _ hm
  obtain ⟨y, hy, ry⟩ := rx.get hi
  have hlt : i < xs.length := (List.getElem?_eq_some_iff.mp hy).1
  refine WM.of mt_popAt ⟨l, xs, i, i, y, rfl, rfl, hx, by omega, by omega, ?_, hy, kk _ _ F _ _ q (Same.refl F) (r.write hm ⟨_, upd_same, rx.eraseIdx i⟩) ry⟩
  have h0 : ¬ ((i : Int) < 0) := by omega
  unfold seqIndex?
  simp [hlt, h0]
theorem mx_clear {l : Addr} (hm : M l = some (.lst ds)) (q : Q .non (mupd M l (.lst []))) : MX B X "list.clear" (.ref l) [] G M Q := fun F σ H Q' v vs r p1 pa kk => by
  cases pa
  cases p1
  obtain ⟨_, xs, hx, rx⟩ := r.mem l _ hm
  exact WM.of mt_clear ⟨l, xs, rfl, rfl, hx, kk _ _ F _ _ q (Same.refl F) (r.write hm ⟨_, upd_same, .nil⟩) .non⟩
/-- index of a flat item -/
theorem mx_index {j : Nat} (hL : IsL M d es) (hf : d2.flat = true) (ha : es.all D.flat = true) (hj : ∃ z, es[j]? = some z ∧ eqV z.toV d2.toV = true) (hno : ∀ m z, m < j → es[m]? = some z → eqV z.toV d2.toV = false) (q : Q (.int (j : Nat)) M) : MX B X "list.index" d [d2] G M Q := fun F σ H Q' v vs r p1 pa kk => by
  obtain ⟨v2, rfl, rp⟩ := rp1 pa
  obtain ⟨a, ys, rfl, hy, ry⟩ := hL.at r p1
  obtain ⟨e1, f1⟩ := rp.flat hf
  obtain ⟨e2, f2⟩ := ry.flat ha
  subst e1; subst e2
  obtain ⟨z, hz, hzz⟩ := hj
  refine WM.of mt_index ⟨a, es.map D.toV, d2.toV, j, z.toV, rfl, rfl, SqL.of hy, f1, f2, by rw [List.getElem?_map, hz]; rfl, hzz, fun m z' hm hz' => ?_, kk.at r q (.int _)⟩
  rw [List.getElem?_map] at hz'
  obtain ⟨z0, h0, rfl⟩ := Option.map_eq_some_iff.mp hz'
  exact hno m z0 hm h0
/-- a method of a built-in list; the receiver a list, frozen or a cell -/
theorem ex_bmL {o : Expr} {es : List Expr} {name : Str} {id : String} (slot : Slot "list" name id) (hty : typeOf (.builtin id) = pure (.type "method_descriptor"))
    (hbase : attributeBase o name X.env (eval o X.env) = eval o X.env)
    (hfew : ((backTo pos (starEach (e :: es) X.env)).all (fun x => !x.1) && (backToKw pos (keywordEach [] X.env)).all (fun x => x.1.isSome)
      && decide ((e :: es).length + ([] : List Keyword).length + (if ([] : List Keyword).isEmpty then 0 else 1) < 30)) = true)
    (hline : (apos.endLine == pos.line) = true) (hs : starEach (e :: es) X.env = (false, eval e X.env) :: starEach es X.env) (hplain : (backTo pos (starEach es X.env)).any (·.1) = false)
    (h : EX B X o G M fun d M1 => ∃ ds, IsL M1 d ds ∧ AX B X (e :: es) G M1 fun xs M2 => MX B X id d xs G M2 Q) : EX B X (.Call (.Attribute o name apos) (e :: es) [] pos) G M Q := fun F σ H Q' r kk =>
  WE.of (pe_bm PySem.F.plainAttrs_list slot hty mt_wm pe_we pa_wa hbase hfew hline hs hplain) (h F σ H _ r fun v1 H1 F1 d1 M1 ⟨ds, hL, q1⟩ s1 r1 p1 => by
    obtain ⟨a, xs, rfl, hx, rx⟩ := hL.at r1 p1
    exact ⟨.inl ⟨rfl, xs, .inl (.inl hx)⟩, q1 F1 σ H1 _ r1 fun vs H2 F2 ds2 M2 q2 s2 r2 p2 => q2 F2 σ H2 Q' _ vs r2 (p1.mono s2) p2 (kk.mono (s1.trans s2))⟩)
end
end FL

/-! < of data -/
namespace FL
open PySem PySem.Spec PyProof.Rows L2
section
variable {B : Bs} {X : Cx} {G : Sl} {M : Mem} {Q : D → Mem → Prop} {d e : D}
theorem op_ltD (hu : X.A.units + 64 < cLine) : OpR X (compareOp .Lt) (fun x y H Q => ∃ d e, Dp X.K H x d ∧ Dp X.K H y e ∧ PySem.W.alike d e = true ∧ d ≠ .none ∧ d.depth ≤ 64 ∧ Q (.bl (PySem.W.dataLt d e)) H) := by
  intro pins s σ H x y v u Q I rx ry h
  obtain ⟨d, e, hd, he, ha, hn, hdp, q⟩ := h
  obtain ⟨as, r1⟩ := Dp.reads I d x v hd rx
  obtain ⟨bs, r2⟩ := Dp.reads I e y u he ry
  exact PySem.W.rcLt_alike d e X.A s v u as bs r1 r2 ha hn (by omega) X.prog X.w X.xe _ ⟨.bl _, H, I, rfl, q⟩
theorem ox_ltD (hu : X.A.units + 64 < cLine) (h1 : d.isPy = true) (h2 : e.isPy = true) (ha : PySem.W.alike d.py e.py = true) (hn : d.py ≠ .none) (hd : d.dep ≤ 64) (q : Q (.bl (PySem.W.dataLt d.py e.py)) M) : OX B X (compareOp .Lt) d e G M Q := fun F σ H Q' v w r p1 p2 k =>
  WO.of (op_ltD hu) ⟨_, _, p1.dp r.ex h1, p2.dp r.ex h2, ha, hn, Nat.le_trans (dep_py d) hd, k.at r q (.bl _)⟩
end
/-- a loop's own block -/
def loopBody : Stmt → List Stmt
  | .For _ _ b _ _ => b
  | .While _ b _ _ => b
  | _ => []
def ifThen : Stmt → List Stmt
  | .If _ b _ _ => b
  | _ => []
/-- lists of ints as they ascend -/
def lexI : List Int → List Int → Bool
  | [], [] => false
  | [], _ :: _ => true
  | _ :: _, [] => false
  | x :: xs, y :: ys => decide (x < y) || (decide (x = y) && lexI xs ys)
theorem pys_int : ∀ ns : List Int, pys (ns.map D.int) = ns.map PyData.int
  | [] => by rw [List.map_nil, pys, List.map_nil]
  | n :: ns => by rw [List.map_cons, pys, D.py, List.map_cons, pys_int ns]
theorem alike_ints : ∀ ns ms : List Int, PySem.W.alikeAll (ns.map PyData.int) (ms.map PyData.int) = true
  | [], [] => by simp [PySem.W.alikeAll]
  | [], _ :: _ => by simp [PySem.W.alikeAll]
  | _ :: _, [] => by simp [PySem.W.alikeAll]
  | n :: ns, m :: ms => by
    rw [List.map_cons, List.map_cons, PySem.W.alikeAll, alike_ints ns ms, PySem.W.alike]; rfl
theorem lt_ints : ∀ ns ms : List Int, PySem.W.dataLt (.list (ns.map PyData.int)) (.list (ms.map PyData.int)) = lexI ns ms := by
  have key : ∀ ns ms : List Int, PyProof.Rows.lexLt itemOrd (PySem.W.keyToksAll (ns.map PyData.int)) (PySem.W.keyToksAll (ms.map PyData.int)) = lexI ns ms := by
    intro ns
    induction ns with
    | nil =>
      intro ms
      cases ms with
      | nil => rw [List.map_nil, PySem.W.keyToksAll]; decide +kernel
      | cons m ms =>
        rw [List.map_nil, List.map_cons, PySem.W.keyToksAll, PySem.W.keyToksAll]
        rfl
    | cons n ns ih =>
      intro ms
      cases ms with
      | nil =>
        rw [List.map_nil, List.map_cons, PySem.W.keyToksAll, PySem.W.keyToksAll]
        rfl
      | cons m ms =>
        rw [List.map_cons, List.map_cons]
        have ha : PySem.W.alike (.int n) (.int m) = true := by rw [PySem.W.alike]
        have he : PyData.eqv (.int n) (.int m) = (n == m) := by rw [PyData.eqv]
        by_cases h : n = m
        · subst h
          rw [PySem.W.dataLt_all_yes ha (by rw [he]; simp), ih]
          simp [lexI]
        · rw [PySem.W.dataLt_all_no ha (by rw [he]; simpa using h), PySem.W.dataLt_int]
          simp [lexI, h]
  intro ns ms
  rw [PySem.W.dataLt_list]
  exact key ns ms
/-- a number and a list -/
theorem lt_pair (n m : Int) (ns ms : List Int) : PySem.W.dataLt (.tuple [.int n, .list (ns.map PyData.int)]) (.tuple [.int m, .list (ms.map PyData.int)]) = (decide (n < m) || (decide (n = m) && lexI ns ms)) := by
  have ha : PySem.W.alike (.int n) (.int m) = true := by rw [PySem.W.alike]
  have he : PyData.eqv (.int n) (.int m) = (n == m) := by rw [PyData.eqv]
  rw [PySem.W.dataLt_tuple]
  by_cases h : n = m
  · subst h
    rw [PySem.W.dataLt_all_yes ha (by rw [he]; simp)]
    have hb : PySem.W.alike (.list (ns.map PyData.int)) (.list (ms.map PyData.int)) = true := by rw [PySem.W.alike]; exact alike_ints ns ms
    cases q : PyData.eqv (.list (ns.map PyData.int)) (.list (ms.map PyData.int)) with
    | true =>
      rw [PySem.W.dataLt_all_yes hb q]
      have e1 : ns = ms := by
        rw [PyData.eqv] at q
        have z : eqDs (ns.map D.int) (ms.map D.int) = true := by unfold eqDs; rw [pys_int, pys_int]; exact q
        rw [eqDs_enc (fun x y => eqD_int' x y)] at z
        exact of_decide_eq_true z
      subst e1
      have e2 : lexI ns ns = false := by
        clear q hb
        induction ns with
        | nil => rfl
        | cons n ns ih => simp [lexI, ih]
      rw [e2]
      simp
      decide +kernel
    | false =>
      rw [PySem.W.dataLt_all_no hb q, lt_ints]
      simp
  · rw [PySem.W.dataLt_all_no ha (by rw [he]; simpa using h), PySem.W.dataLt_int]
    simp [h]
end FL

/-! slices of lists with a step -/
namespace FL
open PySem PySem.Spec PyProof.Rows L2
def pickOf {α : Type} (xs : List α) (lo hi st : Option Int) : List α := (sliceRange (sliceBounds lo hi st xs.length).1 (sliceBounds lo hi st xs.length).2.1 (sliceBounds lo hi st xs.length).2.2).filterMap (xs[·]?)
theorem pickOf_len {α : Type} (xs : List α) (lo hi st : Option Int) : (pickOf xs lo hi st).length ≤ xs.length := by
  unfold pickOf
  refine Nat.le_trans (List.length_filterMap_le _ _) (sliceRange_length_le _ _ _ _ (fun hc => ?_) fun hc => ?_)
  · simp only [sliceBounds] at hc ⊢
    simp only [hc, if_true]
    constructor
    · cases lo with
      | none => simp
      | some i => dsimp only; omega
    · cases hi with
      | none => simp
      | some i => dsimp only; omega
  · simp only [sliceBounds] at hc ⊢
    simp only [hc, if_false]
    constructor
    · cases lo with
      | none => simp
      | some i => dsimp only; omega
    · cases hi with
      | none => simp
      | some i => dsimp only; omega
theorem vals_pick {xs : List V} {us : List Value} (r : Vals xs us) : ∀ l : List Nat, Vals (l.filterMap (xs[·]?)) (l.filterMap (us[·]?))
  | [] => .nil
  | i :: l => by
    rw [List.filterMap_cons, List.filterMap_cons]
    have e := r.length
    by_cases h : i < xs.length
    · obtain ⟨u, hu, ru⟩ := r.get (List.getElem?_eq_getElem h)
      rw [List.getElem?_eq_getElem h, hu]
      exact .cons ru (vals_pick r l)
    · rw [List.getElem?_eq_none (by omega), List.getElem?_eq_none (by omega)]
      exact vals_pick r l
theorem rp_pick {K : PySem.W.Frag} {F : Hp} {xs : List V} {ds : List D} (r : RpAll K F xs ds) : ∀ l : List Nat, RpAll K F (l.filterMap (xs[·]?)) (l.filterMap (ds[·]?))
  | [] => .nil
  | i :: l => by
    rw [List.filterMap_cons, List.filterMap_cons]
    have e := r.length
    by_cases h : i < xs.length
    · obtain ⟨u, hu, ru⟩ := r.getV (List.getElem?_eq_getElem h)
      rw [List.getElem?_eq_getElem h, hu]
      exact .cons ru (rp_pick r l)
    · rw [List.getElem?_eq_none (by omega), List.getElem?_eq_none (by omega)]
      exact rp_pick r l
section
variable {B : Bs} {X : Cx} {G : Sl} {M : Mem} {Q : D → Mem → Prop} {e st : Expr} {te : TE} {lo hi : Option Expr} {tl th ts : TO} {pos p2 : Pos} {ds : List D}
def tSt (K : PySem.W.Frag) (te : TE) (tl th ts : TO) : TE := fun σ H Q => te σ H fun x H1 => tl σ H1 fun l H2 => th σ H2 fun u H3 => ts σ H3 fun k H4 =>
  ∃ a xs, x = .ref a ∧ SqL K H4 a xs ∧ k ≠ some 0 ∧ ∀ p, H4 p = none → Q (.ref p) (upd H4 p (.lst (pickOf xs l u k)))
theorem pe_sliceSt (he : PE X e te) (hl : PO X lo tl) (hu : PO X hi th) (hs : PO X (some st) ts) : PE X (.Subscript e (.Slice lo hi (some st) p2) pos) (tSt X.K te tl th ts) := by
  refine ⟨fun pins s σ H Q I h => ?_⟩
  refine Subscript_ (thn (he.run pins s σ H _ I h) fun v s1 ⟨x, H1, I1, r1, q1⟩ => ?_)
  refine wpAny_Slice (thn (hl.run pins s1 σ H1 _ I1 q1) fun vl s2 ⟨l, H2, I2, pl, q2⟩ => thn (hu.run pins s2 σ H2 _ I2 q2) fun vu s3 ⟨u, H3, I3, pu, q3⟩ => thn (hs.run pins s3 σ H3 _ I3 q3) fun vs s4 ⟨k, H4, I4, pk, q4⟩ => ?_)
  obtain ⟨a, xs, rfl, hx, hk, q⟩ := q4
  cases r1
  have I5 : Inv X pins σ H4 { s4 with heap := s4.heap.push { cls := .type "slice", data := .fields #[vl, vu, vs] } } := I4.kept (t' := s4.toks) fun b ob q => Heap.get?_push_of_some _ q
  obtain ⟨its, r, ht, hz⟩ := I5.list hx
  have hlen := r.length
  have hg : wpAny (model X.prog X.w) X.A (getItem (.ref a) (.ref s4.heap.objs.size)) (EP X pins σ Q) X.xe { s4 with heap := s4.heap.push { cls := .type "slice", data := .fields #[vl, vu, vs] } } := by
    refine wpAny_getItem_list_slice ht.isList (Heap.IsSliceOf.new ..) pl pu pk hk ?_ (by rw [List.size_toArray]; omega)
    have e1 : slicePick its.toArray l u k = (pickOf its l u k).toArray := by
      unfold slicePick pickOf
      rw [List.size_toArray]
      congr 1
      refine congrArg (fun f => List.filterMap f _) (funext fun i => ?_)
      simp
    rw [e1]
    have e2 : Vals (pickOf xs l u k) (pickOf its l u k) := by
      unfold pickOf
      rw [hlen]
      exact vals_pick r _
    refine ⟨.ref _, _, I5.laid (t' := s4.toks) (o := .lst (pickOf xs l u k)) (fun b ob q => Heap.get?_push_of_some _ q) (Nat.le_refl _) ?_, rfl, q _ (I5.hok.fresh (Nat.le_refl _))⟩
    exact ⟨Nat.le_trans (pickOf_len xs l u k) hz, _, 0, e2, Heap.get?_push_size _ rfl⟩
  show wpAny (model X.prog X.w) X.A (subscriptTail e (.Slice lo hi (some st) p2) (.ref a) (.ref s4.heap.objs.size)) (EP X pins σ Q) X.xe _
  exact tail_any (ops := [.ref a, .ref s4.heap.objs.size]) ht.isList.typeIs slot_list_getitem.lookup hg (by with_unfolding_all rfl)
theorem ex_sliceSt (h : EX B X e G M fun d M1 => POX B X lo G M1 fun l M2 => POX B X hi G M2 fun u M3 => EX B X st G M3 fun k M4 => ∃ (ds : List D) (j : Int), IsL M4 d ds ∧ k = .int j ∧ j ≠ 0 ∧ Q (.lst (pickOf ds l u (some j))) M4) : EX B X (.Subscript e (.Slice lo hi (some st) p2) pos) G M Q := fun F σ H Q' r k =>
  WE.of (pe_sliceSt pe_we po_wpo po_wpo (po_some pe_we)) (h F σ H _ r fun v1 H1 F1 d1 M1 q1 s1 r1 p1 => pox_ok q1 r1 fun l H2 F2 M2 q2 s2 r2 => pox_ok q2 r2 fun u H3 F3 M3 q3 s3 r3 => q3 F3 σ H3 _ r3 fun v4 H4 F4 d4 M4 q4 s4 r4 p4 => by
    obtain ⟨ds, j, hL, e4, hj, q⟩ := q4
    subst e4
    cases p4
    obtain ⟨a, xs, rfl, hx, rx⟩ := hL.at r4 (p1.mono (s2.trans (s3.trans s4)))
    refine ⟨j, rfl, a, xs, rfl, SqL.of hx, fun z => hj (Option.some.inj z), fun p hp => ?_⟩
    refine (k.mono (s1.trans (s2.trans (s3.trans s4)))).new r4 hp q (.lst upd_same ?_)
    unfold pickOf
    rw [rx.length]
    exact (rp_pick rx _).mono (r4.new hp).1)
/-- from a place on, each so manieth -/
theorem pick_from {α : Type} {xs : List α} {n o j : Nat} (ho : 0 < o) (hj : j < o) (hl : xs.length = o * n) : pickOf xs (some (j : Int)) none (some (o : Int)) = (List.range n).filterMap fun k => xs[j + o * k]? := by
  unfold pickOf
  have e1 : (sliceBounds (some (j : Int)) none (some (o : Int)) xs.length) = ((min (j : Int) (xs.length : Int)), (xs.length : Int), (o : Int)) := by
    simp only [sliceBounds, Option.getD_some]
    have h1 : (o : Int) > 0 := by omega
    have h2 : ¬ ((j : Int) < 0) := by omega
    simp only [h1, h2, if_true, if_false]
    congr 1
    omega
  rw [e1]
  unfold sliceRange
  have h1 : (o : Int) > 0 := by omega
  simp only [h1, if_true]
  cases n with
  | zero =>
    have hx : xs = [] := List.eq_nil_of_length_eq_zero (by simpa using hl)
    subst hx
    simp
  | succ n =>
    have hjl : j < xs.length := by
      rw [hl, Nat.mul_succ]; omega
    rw [Int.min_eq_left (by omega), if_pos (by omega)]
    have ec : ((((xs.length : Nat) : Int) - (j : Int) + (o : Int) - 1) / (o : Int)).toNat = n + 1 := by
      have e2 : ((xs.length : Nat) : Int) - (j : Int) + (o : Int) - 1 = ((o : Int) - 1 - (j : Int)) + (o : Int) * ((n : Int) + 1) := by
        rw [hl, Nat.mul_succ]
        have : ((o * n + o : Nat) : Int) = (o : Int) * (n : Int) + (o : Int) := by simp
        rw [this, Int.mul_add, Int.mul_one]; omega
      rw [e2, Int.add_mul_ediv_left _ _ (by omega), Int.ediv_eq_zero_of_lt (by omega) (by omega)]
      omega
    rw [ec, List.filterMap_map]
    refine congrArg (fun f => List.filterMap f (List.range (n + 1))) (funext fun k => ?_)
    show xs[((j : Int) + (o : Int) * (k : Int)).toNat]? = _
    have : ((j : Int) + (o : Int) * (k : Int)).toNat = j + o * k := by
      have : (j : Int) + (o : Int) * (k : Int) = ((j + o * k : Nat) : Int) := by simp
      rw [this, Int.toNat_natCast]
    rw [this]
end
end FL

/-! list(range(..)) -/
namespace FL
open PySem PySem.Spec PyProof.Rows L2
section
variable {B : Bs} {X : Cx} {G : Sl} {M : Mem} {Q : D → Mem → Prop} {a : Expr} {p p2 pos pos2 : Pos}
theorem rps_rg {K : PySem.W.Frag} {F : Hp} {n : Int} : RpAll K F (rgV 0 n) (rangeD 0 n.toNat) := by
  unfold rgV rangeD
  rw [Int.sub_zero]
  generalize List.range n.toNat = l
  induction l with
  | nil => exact .nil
  | cons x l ih => exact .cons (.int _) ih
theorem ex_listRg (hc : X.calm = true) (hl : Gl X "list") (hlm : X.mg "list" = none) (hg : Gl X "range") (hm : X.mg "range" = none) (n1 : starEach [a] X.env = (false, eval a X.env) :: starEach [] X.env)
    (n2 : starEach [Expr.Call (.Name "range" p2) [a] [] pos2] X.env = (false, eval (Expr.Call (.Name "range" p2) [a] [] pos2) X.env) :: starEach [] X.env)
    (h : EX B X a G M fun d M1 => ∃ n : Int, d = .int n ∧ 0 ≤ n ∧ n ≤ 16777216 ∧ Q (.lst (rangeD 0 n.toNat)) M1) : EX B X (.Call (.Name "list" p) [.Call (.Name "range" p2) [a] [] pos2] [] pos) G M Q := fun F σ H Q' r k =>
  WE.of (pe_listRg hc hl hlm (prg_1 hg hm pe_we n1) n2) (h F σ H _ r fun v H1 F1 d1 M1 ⟨n, e1, h0, h1, q⟩ s1 r1 p1 => by
    subst e1; cases p1
    exact ⟨n, rfl, RgOk.of_le (Int.le_refl 0) h1 (by decide) h0, fun l hl => (k.mono s1).new r1 hl q (.lst upd_same rps_rg)⟩)
end
end FL

/-! instances: fields, methods, making -/
namespace FL
open PySem PySem.Spec PyProof.Rows L2
/-- a field is set -/
def putD (f : Str) (d : D) : List (Str × D) → List (Str × D)
  | [] => [(f, d)]
  | (g, x) :: r => if g = f then (g, d) :: r else (g, x) :: putD f d r
section
variable {K : PySem.W.Frag} {F : Hp} {f : Str}
theorem FsRp.get {d : D} : ∀ {vs : List (Str × V)} {ds : List (Str × D)}, FsRp K F vs ds → ds.lookup f = some d → ∃ v, vs.lookup f = some v ∧ Rp K F v d
  | _, _, .nil, h => by cases h
  | _, _, @FsRp.cons _ _ k v vs e ds p r, h => by
    rw [List.lookup_cons] at h ⊢
    split at h
    · rename_i q
      cases h
      exact ⟨v, rfl, p⟩
    · exact r.get h
theorem FsRp.none : ∀ {vs : List (Str × V)} {ds : List (Str × D)}, FsRp K F vs ds → ds.lookup f = none → vs.lookup f = none
  | _, _, .nil, h => rfl
  | _, _, @FsRp.cons _ _ k v vs e ds p r, h => by
    rw [List.lookup_cons] at h ⊢
    split at h
    · cases h
    · exact r.none h
theorem FsRp.len : ∀ {vs : List (Str × V)} {ds : List (Str × D)}, FsRp K F vs ds → vs.length = ds.length
  | _, _, .nil => rfl
  | _, _, .cons _ r => by rw [List.length_cons, List.length_cons, r.len]
theorem FsRp.put {v : V} {d : D} (q : Rp K F v d) : ∀ {vs : List (Str × V)} {ds : List (Str × D)}, FsRp K F vs ds → FsRp K F (putF f v vs) (putD f d ds)
  | _, _, .nil => .cons q .nil
  | _, _, @FsRp.cons _ _ k w vs e ds p r => by
    unfold putF putD
    by_cases h : k = f
    · rw [if_pos h, if_pos h]; exact .cons q r
    · rw [if_neg h, if_neg h]; exact .cons p (r.put q)
end
/-- a method of the class at C -/
structure Mth (P : Program) (w : World) (K : PySem.W.Frag) (mg : Str → Option Value) (base : Heap) (k : Nat) (C : Addr) (m : Str) (sp : DSp) : Prop where
  ex : ∃ (f : Addr) (fd : FuncData) (ps : List Str), FnOk P w K mg base CX0 k f fd ps (lift K sp) ∧ Cls K C ∧ Meth K C m f ∧ Binds K fd ps []
/-- the class by its name, and its __init__ -/
structure Mkr (P : Program) (w : World) (K : PySem.W.Frag) (mg : Str → Option Value) (base : Heap) (k : Nat) (x : Str) (C : Addr) (sp : DSp) : Prop where
  ex : ∃ (f : Addr) (fd : FuncData) (ps : List Str), FnOk P w K mg base CX0 k f fd ps (lift K sp) ∧ Mk K C f ∧ mg x = some (.ref C) ∧ Binds K fd ps []
section
variable {B : Bs} {X : Cx} {a b c e o value : Expr} {es : List Expr} {G G' : Sl} {M M' : Mem} {Q : D → Mem → Prop} {E : En} {pos p pos' apos : Pos} {k : Nat} {x m f : Str} {sp : DSp} {C : Addr}
theorem ex_fld (hb : attributeBase e f X.env (eval e X.env) = eval e X.env) (h : EX B X e G M fun d M1 => ∃ a C fs v, d = .ref a ∧ M1 a = some (.ins C fs) ∧ Cls X.K C ∧ NoAttr X.K C f ∧ fs.lookup f = some v ∧ Q v M1) : EX B X (.Attribute e f pos) G M Q := fun F σ H Q' r kk =>
  WE.of (pe_fld pe_we hb) (h F σ H _ r fun v H1 F1 d1 M1 ⟨a, C, fs, y, e1, hm, c, n, l, q⟩ s1 r1 p1 => by
    subst e1; cases p1
    obtain ⟨_, dx, vs, hx, rx⟩ := r1.mem a _ hm
    obtain ⟨u, hu, ru⟩ := rx.get l
    exact ⟨a, C, dx, vs, u, rfl, hx, c, n, hu, (kk.mono s1).at r1 q ru⟩)
theorem sx_fld (hs : swapsWith value (some (.Attribute o f pos')) pos.line X.env = pure false) (h : EX B X value G M fun d M1 => EX B X o G M1 fun d2 M2 => ∃ a C fs, d2 = .ref a ∧ M2 a = some (.ins C fs) ∧ Cls X.K C ∧ NoAttr X.K C f ∧ fs.length < 1000 ∧ E.nx G (mupd M2 a (.ins C (putD f d fs)))) :
    SX B X (.Assign [.Attribute o f pos'] value pos) E G M := fun F σ H D' r k =>
  WS.of (ps_fld pe_we pe_we hs) (h F σ H _ r fun v1 H1 F1 d1 M1 q1 s1 r1 p1 => q1 F1 σ H1 _ r1 fun v2 H2 F2 d2 M2 ⟨a, C, fs, e2, hm, c, n, l, q⟩ s2 r2 p2 => by
    subst e2; cases p2
    obtain ⟨_, dx, vs, hx, rx⟩ := r2.mem a _ hm
    refine ⟨a, C, dx, vs, rfl, hx, c, n, by rw [rx.len]; exact l, k.nx _ _ F2 _ _ q (s1.trans s2) (r2.write hm ⟨dx, _, upd_same, rx.put (p1.mono s2)⟩)⟩)
theorem ex_meth {pl : Sem Bool} (c : Mth X.prog X.w X.K X.mg X.base k C m sp) (hr : Room k X.A) (hst : starEach (e :: es) X.env = (false, eval e X.env) :: starEach es X.env) (hpl : (backTo pos (starEach es X.env)).any (·.1) = false)
    (ht : eval (.Call (.Attribute o m apos) (e :: es) [] pos) X.env = (do
      let ov ← eval o X.env
      standAt apos.atName
      let (f, first) ← holding [ov] (getMethod ov m pl)
      callWith pos f first (backTo pos (starEach (e :: es) X.env)) (backToKw pos (keywordEach [] X.env))))
    (h : EX B X o G M fun d M1 => ∃ a fs, d = .ref a ∧ M1 a = some (.ins C fs) ∧ fs.lookup m = none ∧ AX B X (e :: es) G M1 fun ds M2 => sp (.ref a :: ds) M2 Q) : EX B X (.Call (.Attribute o m apos) (e :: es) [] pos) G M Q := fun F σ H Q' r kk => by
  obtain ⟨f, fd, ps, Fo, cl, me, bd⟩ := c.ex
  refine WE.of (pe_meth pe_we cl me Fo hr bd .nil pass0 pa_wa hst hpl ht) (h F σ H _ r fun v H1 F1 d1 M1 ⟨a, fs, e1, hm, l, q⟩ s1 r1 p1 => ?_)
  subst e1; cases p1
  obtain ⟨_, dx, vs, hx, rx⟩ := r1.mem a _ hm
  refine ⟨a, dx, vs, rfl, hx, rx.none l, q F1 σ H1 _ r1 fun us H2 F2 ds M2 q2 s2 r2 p2 => ?_⟩
  rw [List.append_nil]
  exact lift_use r2 (.cons (.ref a) p2) q2 (kk.mono (s1.trans s2))
theorem ex_meth0 {pl : Sem Bool} (c : Mth X.prog X.w X.K X.mg X.base k C m sp) (hr : Room k X.A)
    (ht : eval (.Call (.Attribute o m apos) [] [] pos) X.env = (do
      let ov ← eval o X.env
      standAt apos.atName
      let (f, first) ← holding [ov] (getMethod ov m pl)
      callWith pos f first (backTo pos (starEach [] X.env)) (backToKw pos (keywordEach [] X.env))))
    (h : EX B X o G M fun d M1 => ∃ a fs, d = .ref a ∧ M1 a = some (.ins C fs) ∧ fs.lookup m = none ∧ sp [.ref a] M1 Q) : EX B X (.Call (.Attribute o m apos) [] [] pos) G M Q := fun F σ H Q' r kk => by
  obtain ⟨f, fd, ps, Fo, cl, me, bd⟩ := c.ex
  refine WE.of (pe_meth0 pe_we cl me Fo hr bd .nil pass0 ht) (h F σ H _ r fun v H1 F1 d1 M1 ⟨a, fs, e1, hm, l, q⟩ s1 r1 p1 => ?_)
  subst e1; cases p1
  obtain ⟨_, dx, vs, hx, rx⟩ := r1.mem a _ hm
  exact ⟨a, dx, vs, rfl, hx, rx.none l, lift_use (E0' := E0) r1 (.cons (.ref a) .nil) q (kk.mono s1)⟩
theorem make_use {F1 H1 : Hp} {σ : L2.St} {vs : List V} {ds : List D} {Q' : VK} {E0' : XK} (r1 : R B X.K F1 σ H1 G M) (p1 : RpAll X.K F1 vs ds) (q : ∀ x, M x = none → sp (.ref x :: ds) (mupd M x (.ins C [])) fun d M2 => d = .non ∧ Q (.ref x) M2) (kk : KE B X F1 σ G Q Q') :
    ∀ x dx, H1 x = none → H1 dx = none → dx ≠ x → lift X.K sp (.ref x :: vs) (upd (upd H1 dx (.own x)) x (.ins C dx [])) (fun v H2 => v = .non ∧ Q' (.ref x) H2) E0' := by
  intro x dx hx hd hne
  have r2 : R B X.K F1 σ (upd H1 dx (.own x)) G M := r1.heap (Same.upd_new hd)
  have hx2 : (upd H1 dx (.own x)) x = none := by rw [upd_ne (Ne.symm hne)]; exact hx
  have r3 : R B X.K F1 σ (upd (upd H1 dx (.own x)) x (.ins C dx [])) G (mupd M x (.ins C [])) := r2.newCell hx2 ⟨dx, [], upd_same, .nil⟩
  exact ⟨F1, _, _, _, .cons (.ref x) p1, r3.ex, r3.mem, q x (r1.freeM hx), fun d M' ⟨e, qd⟩ v H' F' s' k' e' m' rp => by
    subst e; cases rp
    exact ⟨rfl, kk (.ref x) H' F' (.ref x) M' qd s' ⟨r3.slots.mono s', e', m', r3.bf.trans s', r3.bk.trans k'⟩ (.ref x)⟩⟩
theorem ex_make (c : Mkr X.prog X.w X.K X.mg X.base k x C sp) (hr : Room (k + 1) X.A) (hg : Gl X x) (hdb : (x == ("__debug__" : Str)) = false)
    (he : starEach (e :: es) X.env = (false, eval e X.env) :: starEach es X.env) (hpl : (backTo pos (starEach es X.env)).any (·.1) = false)
    (h : AX B X (e :: es) G M fun ds M1 => ∀ x, M1 x = none → sp (.ref x :: ds) (mupd M1 x (.ins C [])) fun d M2 => d = .non ∧ Q (.ref x) M2) : EX B X (.Call (.Name x p) (e :: es) [] pos) G M Q := fun F σ H Q' r kk => by
  obtain ⟨f, fd, ps, Fo, mk, mgx, bd⟩ := c.ex
  refine WE.of (pe_make mk Fo hr hg mgx bd .nil pass0 pa_wa hdb he hpl) (h F σ H _ r fun vs H1 F1 ds M1 q1 s1 r1 p1 => ?_)
  intro y dx hx hd hne
  rw [List.append_nil]
  exact make_use r1 p1 q1 (kk.mono s1) y dx hx hd hne
theorem ex_make0 (c : Mkr X.prog X.w X.K X.mg X.base k x C sp) (hr : Room (k + 1) X.A) (hg : Gl X x) (hdb : (x == ("__debug__" : Str)) = false)
    (h : ∀ x, M x = none → sp [.ref x] (mupd M x (.ins C [])) fun d M2 => d = .non ∧ Q (.ref x) M2) : EX B X (.Call (.Name x p) [] [] pos) G M Q := fun F σ H Q' r kk => by
  obtain ⟨f, fd, ps, Fo, mk, mgx, bd⟩ := c.ex
  exact WE.of (pe_make0 mk Fo hr hg mgx bd .nil pass0 hdb) (make_use (vs := [] ++ []) (E0' := E0) r .nil h kk)
end
end FL

/-! walks over lists that may be cells: the cell is known to stay as it is -/
namespace FL
open PySem PySem.Spec PyProof.Rows L2
structure WkM (B : Bs) (K : PySem.W.Frag) (F0 : Hp) (J : It) (ds : List D) (C : Mem → Prop) : Prop where
  goes : ∀ i F σ H G M, i < ds.length → Same F0 F → R B K F σ H G M → C M → J.go i H
  stops : ∀ F σ H G M, Same F0 F → R B K F σ H G M → C M → J.stop ds.length H
  yields : ∀ i F σ H G M x H', i < ds.length → Same F0 F → R B K F σ H G M → C M → J.yld i H x H' → ∃ d, ds[i]? = some d ∧ ∃ F2, Same F F2 ∧ R B K F2 σ H' G M ∧ Rp K F2 x d
/-- an iterable that gives ds while C holds of the cells -/
def LXM (B : Bs) (X : Cx) (tg iter : Expr) (G : Sl) (M : Mem) (Q : List D → (Mem → Prop) → Mem → Prop) : Prop := ∀ F σ H (R' : It → Hp → Prop), R B X.K F σ H G M →
  (∀ J H' F' ds C M', Q ds C M' → Same F F' → R B X.K F' σ H' G M' → WkM B X.K F' J ds C → R' J H') → WIt X tg iter σ H R'
section
variable {B : Bs} {X : Cx} {a b c e o tg iter elt : Expr} {es : List Expr} {G G' : Sl} {M M' : Mem} {Q : D → Mem → Prop} {E : En} {pos p pos' : Pos} {F F1 : Hp} {σ : L2.St} {st : Stmt} {sts rest body : List Stmt}
theorem wkm_isL {K : PySem.W.Frag} {F0 : Hp} {a : Addr} {d : D} {ds : List D} (p0 : Rp K F0 (.ref a) d) : WkM B K F0 (Itl K a) ds (fun M => IsL M d ds) where
  goes := fun i F σ H G M hi s r hC => by
    obtain ⟨a', xs, e, hx, rx⟩ := hC.at r (p0.mono s)
    cases e
    exact ⟨xs, xs[i]'(by rw [rx.length]; exact hi), SqL.of hx, by simp [rx.length, hi]⟩
  stops := fun F σ H G M s r hC => by
    obtain ⟨a', xs, e, hx, rx⟩ := hC.at r (p0.mono s)
    cases e
    exact ⟨xs, SqL.of hx, by rw [rx.length]; exact Nat.le_refl _⟩
  yields := fun i F σ H G M x H' hi s r hC y => by
    obtain ⟨a', xs, e, hx, rx⟩ := hC.at r (p0.mono s)
    cases e
    obtain ⟨e2, y⟩ := y
    subst e2
    obtain ⟨d, hd, rd⟩ := rx.getV (y xs (SqL.of hx))
    exact ⟨d, hd, F, Same.refl F, r, rd⟩
theorem lxm_isL {Q : List D → (Mem → Prop) → Mem → Prop} (h : EX B X e G M fun d M1 => ∃ ds, IsL M1 d ds ∧ Q ds (fun M => IsL M d ds) M1) : LXM B X tg e G M Q := fun F σ H R' r k =>
  WIt.of (pi_list pe_we) (h F σ H _ r fun v H1 F1 d1 M1 ⟨ds, hL, q⟩ s1 r1 p1 => by
    obtain ⟨a, xs, rfl, hx, rx⟩ := hL.at r1 p1
    exact ⟨a, rfl, ⟨xs, SqL.of hx⟩, k _ _ F1 ds _ M1 q s1 r1 (wkm_isL p1)⟩)
theorem wkm_enumL {K : PySem.W.Frag} {F0 : Hp} {a : Addr} {d : D} {ds : List D} (p0 : Rp K F0 (.ref a) d) : WkM B K F0 (Ite K a) (enumD ds) (fun M => IsL M d ds) where
  goes := fun i F σ H G M hi s r hC => by
    rw [enumD_len] at hi
    obtain ⟨a', xs, e, hx, rx⟩ := hC.at r (p0.mono s)
    cases e
    exact ⟨xs, xs[i]'(by rw [rx.length]; exact hi), SqL.of hx, by simp [rx.length, hi]⟩
  stops := fun F σ H G M s r hC => by
    obtain ⟨a', xs, e, hx, rx⟩ := hC.at r (p0.mono s)
    cases e
    exact ⟨xs, SqL.of hx, by rw [rx.length, enumD_len]; exact Nat.le_refl _⟩
  yields := fun i F σ H G M x H' hi s r hC y => by
    obtain ⟨a', xs, e, hx, rx⟩ := hC.at r (p0.mono s)
    cases e
    obtain ⟨T, u, h1, h2, h3, h4⟩ := y
    subst h1; subst h3
    obtain ⟨d, hd, rd⟩ := rx.getV (h4 xs (SqL.of hx))
    obtain ⟨F2, s2, r2, p2⟩ := pair_new r h2 (.int _) rd
    exact ⟨_, enumD_get hd, F2, s2, r2, p2⟩
theorem lxm_enumL {Q : List D → (Mem → Prop) → Mem → Prop} (hg : Gl X "enumerate") (hm : X.mg "enumerate" = none) (hs : starEach [e] X.env = [(false, eval e X.env)]) (ht : ∃ es k pp, tg = .Tuple es k pp)
    (h : EX B X e G M fun d M1 => ∃ ds, IsL M1 d ds ∧ Q (enumD ds) (fun M => IsL M d ds) M1) : LXM B X tg (.Call (.Name "enumerate" p) [e] [] pos) G M Q := fun F σ H R' r k => by
  obtain ⟨es, kk, pp, rfl⟩ := ht
  refine WIt.of (pi_enum hg hm (pa_cons pe_we pa_nil (by rw [hs]; rfl)) hs) (h F σ H _ r fun v H1 F1 d1 M1 ⟨ds, hL, q⟩ s1 r1 p1 => ?_)
  obtain ⟨a, xs, rfl, hx, rx⟩ := hL.at r1 p1
  exact ⟨a, xs, rfl, SqL.of hx, k _ _ F1 _ _ M1 q s1 r1 (wkm_enumL p1)⟩
theorem sx_forM (hp : PassesOwn (model X.prog X.w) X.A X.env X.xe) (hc : X.calm = true) (hs : ∀ x, foldedSetIterable iter X.env x = pure x)
    (h : LXM B X tg iter G M fun ds C M1 => ∃ I : Nat → Sl → Mem → Prop, I 0 G M1 ∧ (∀ i G' M', I i G' M' → C M') ∧
      (∀ i d G' M', ds[i]? = some d → I i G' M' → GX B X tg d G' M' fun G2 M2 => SXs B X body (E.lp (I (i + 1))) G2 M2) ∧ ∀ G' M', I ds.length G' M' → E.nx G' M') :
    SX B X (.For tg iter body [] pos) E G M := fun F σ H D' r k =>
  WS.of (ps_for hp hc pi_wi pg_wg pss_wss hs) (h F σ H _ r fun J H1 F1 ds C M1 ⟨I, i0, iC, turn, fin⟩ s1 r1 w => by
    refine ⟨fun i m σ' H' => m = ds.length - i ∧ i ≤ ds.length ∧ ∃ F' G' M', Same F1 F' ∧ R B X.K F' σ' H' G' M' ∧ I i G' M', ⟨_, rfl, Nat.zero_le _, F1, G, M1, Same.refl F1, r1, i0⟩, ?_⟩
    rintro i m σ' H' ⟨rfl, hi, F', G', M', s', r', hI⟩
    by_cases hlt : i < ds.length
    · refine .inr ⟨w.goes i F' σ' H' G' M' hlt s' r' (iC i G' M' hI), fun σ2 H2 => ∃ F' G' M', Same F1 F' ∧ R B X.K F' σ2 H2 G' M' ∧ I (i + 1) G' M', fun σ2 H2 z => ⟨ds.length - (i + 1), by omega, rfl, hlt, z⟩, fun x H2 y => ?_⟩
      obtain ⟨d, hd, F2, s2, r2, p2⟩ := w.yields i F' σ' H' G' M' x H2 hlt s' r' (iC i G' M' hI) y
      refine turn i d G' M' hd hI F2 σ' H2 _ x r2 p2 fun σ3 H3 F3 G3 M3 q3 s3 r3 => q3 F3 σ3 H3 _ r3 ?_
      have s03 : Same F F3 := s1.trans (s'.trans (s2.trans s3))
      refine ⟨?_, k.rt.mono s03, k.nx.mono s03, ?_⟩
      · exact fun σ4 H4 F4 G4 M4 q4 s4 r4 => ⟨F4, G4, M4, (s'.trans (s2.trans s3)).trans s4, r4, q4⟩
      · exact fun σ4 H4 F4 G4 M4 q4 s4 r4 => ⟨F4, G4, M4, (s'.trans (s2.trans s3)).trans s4, r4, q4⟩
    · have e : i = ds.length := by omega
      subst e
      exact .inl ⟨w.stops F' σ' H' G' M' s' r' (iC _ G' M' hI), k.nx σ' H' F' G' M' (fin G' M' hI) (s1.trans s') r'⟩)
/-! ### comprehensions over such -/
def LcXM (B : Bs) (X : Cx) (scope : Scope) (own : List Nat) (t : Tg) (ifs : List Expr) (elt : Expr) (G : Sl) (ds : List D) (C : Mem → Prop) (M1 : Mem) (fin : Addr → List D → Mem → Prop) : Prop :=
  ∀ L, M1 L = none → ∃ I : Nat → List D → Mem → Prop, I 0 [] (mupd M1 L (.lst [])) ∧ (∀ i acc M', I i acc M' → M' L = some (.lst acc) → C M') ∧
    (∀ i d acc M', ds[i]? = some d → I i acc M' → M' L = some (.lst acc) → TgD t d fun dvs => Bk X scope fun X' => TXs B X' ifs (gsetAll (gwipe G own) t.slots dvs) M' fun b M3 =>
      if b = true then Bk X scope fun X2 => EX B X2 elt (gsetAll (gwipe G own) t.slots dvs) M3 fun y M4 => M4 L = some (.lst acc) ∧ acc.length < sizeLine ∧ I (i + 1) (acc ++ [y]) (mupd M4 L (.lst (acc ++ [y])))
      else M3 L = some (.lst acc) ∧ I (i + 1) acc M3) ∧
    ∀ acc M', I ds.length acc M' → M' L = some (.lst acc) → fin L acc M'
theorem lc_dataM {scope : Scope} {own : List (Str × Nat)} {t : Tg} {ifs : List Expr} {fin : Addr → List D → Mem → Prop} {Q' : VK} {H : Hp} (ht : ∀ i ∈ t.slots, i ∈ own.map (·.2)) (r : R B X.K F σ H G M)
    (h : LXM B X tg iter G M fun ds C M1 => LcXM B X scope (own.map (·.2)) t ifs elt G ds C M1 fin)
    (k : ∀ L acc H' F' M', fin L acc M' → M' L = some (.lst acc) → Same F F' → R B X.K F' σ H' G M' → Q' (.ref L) H') :
    tLc (WIt X tg iter) (gTg X.K t) (WTb X scope ifs) (WEb X scope elt) (own.map (·.2)) σ H Q' := by
  refine h F σ H _ r fun J H1 F1 ds C M1 lc s1 r1 w => ?_
  intro L hL
  obtain ⟨I, i0, iC, turn, fn⟩ := lc L (r1.freeM hL)
  refine ⟨fun i m H' => m = ds.length - i ∧ i ≤ ds.length ∧ ∃ F' acc M', Same F1 F' ∧ R B X.K F' σ H' G M' ∧ M' L = some (.lst acc) ∧ I i acc M', ⟨_, rfl, Nat.zero_le _, F1, [], _, Same.refl F1, r1.newCell (o := .lst []) hL ⟨[], upd_same, .nil⟩, mupd_same, i0⟩, ?_⟩
  rintro i m H' ⟨rfl, hi, F', acc, M', s', r', hM, hI⟩
  have cM := iC i acc M' hI hM
  by_cases hlt : i < ds.length
  · refine .inr ⟨w.goes i F' σ H' G M' hlt s' r' cM, fun H2 => ∃ F' acc M', Same F1 F' ∧ R B X.K F' σ H2 G M' ∧ M' L = some (.lst acc) ∧ I (i + 1) acc M', fun H2 z => ⟨ds.length - (i + 1), by omega, rfl, hlt, z⟩, fun x H2 y => ?_⟩
    obtain ⟨d, hd, F2, s2, r2, p2⟩ := w.yields i F' σ H' G M' x H2 hlt s' r' cM y
    have tt := turn i d acc M' hd hI hM
    have main : ∀ (vs : List V) (dvs : List D), RpAll X.K F2 vs dvs → (Bk X scope fun X' => TXs B X' ifs (gsetAll (gwipe G (own.map (·.2))) t.slots dvs) M' fun b M3 =>
        if b = true then Bk X scope fun X2 => EX B X2 elt (gsetAll (gwipe G (own.map (·.2))) t.slots dvs) M3 fun y M4 => M4 L = some (.lst acc) ∧ acc.length < sizeLine ∧ I (i + 1) (acc ++ [y]) (mupd M4 L (.lst (acc ++ [y])))
        else M3 L = some (.lst acc) ∧ I (i + 1) acc M3) →
        L2.wipe (FL.setAll (L2.wipe σ (own.map (·.2))) t.slots vs) (own.map (·.2)) = L2.wipe σ (own.map (·.2)) ∧ WTb X scope ifs (FL.setAll (L2.wipe σ (own.map (·.2))) t.slots vs) H2 fun b H3 =>
          if b = true then WEb X scope elt (FL.setAll (L2.wipe σ (own.map (·.2))) t.slots vs) H3 fun y H4 => ∃ acc, H4 L = some (.lst acc) ∧ acc.length < sizeLine ∧ (∃ F' acc' M', Same F1 F' ∧ R B X.K F' σ (upd H4 L (.lst (acc ++ [y]))) G M' ∧ M' L = some (.lst acc') ∧ I (i + 1) acc' M')
          else ∃ F' acc M', Same F1 F' ∧ R B X.K F' σ H3 G M' ∧ M' L = some (.lst acc) ∧ I (i + 1) acc M' := by
      intro vs dvs pv hb
      refine ⟨wipe_setAll ht, fun s0 H0 C cl fp => ?_⟩
      have rw0 : R B X.K F2 (FL.setAll (L2.wipe σ (own.map (·.2))) t.slots vs) H2 (gsetAll (gwipe G (own.map (·.2))) t.slots dvs) M' := R.setAll (R.wipe r2 (own.map (·.2))) pv
      refine txs_ok (X := X.blk s0 H0 scope (compEnvC scope cl C X.env) fp) (hb s0 H0 C cl fp) rw0 fun b H3 F3 M3 q3 s3 r3 => ?_
      have back : ∀ {Hx Fx : Hp} {Mx : Mem}, Same F2 Fx → R B X.K Fx (FL.setAll (L2.wipe σ (own.map (·.2))) t.slots vs) Hx (gsetAll (gwipe G (own.map (·.2))) t.slots dvs) Mx → R B X.K Fx σ Hx G Mx := fun sx rx => ⟨r2.slots.mono sx, rx.ex, rx.mem, rx.bf, rx.bk⟩
      cases b with
      | true =>
        rw [if_pos rfl] at q3 ⊢
        intro s5 H5 C5 cl5 fp5
        refine q3 s5 H5 C5 cl5 fp5 F3 _ H3 _ r3 fun y H4 F4 d4 M4 ⟨m4, l4, i4⟩ s4 r4 p4 => ?_
        obtain ⟨_, xs, hx, rx⟩ := r4.mem L _ m4
        refine ⟨xs, hx, by rw [rx.length]; exact l4, F4, acc ++ [d4], _, ((s'.trans s2).trans s3).trans s4, ?_, mupd_same, i4⟩
        exact (back (s3.trans s4) r4).write m4 ⟨_, upd_same, rx.append (.cons p4 .nil)⟩
      | false =>
        rw [if_neg Bool.false_ne_true] at q3 ⊢
        exact ⟨F3, acc, M3, (s'.trans s2).trans s3, back s3 r3, q3.1, q3.2⟩
    cases t with
    | inl j => exact main [x] [d] (.cons p2 .nil) tt
    | inr js =>
      obtain ⟨dvs, e, hl, hb⟩ := tt
      subst e
      cases p2 with
      | @tup a xs _ hq ra => exact ⟨a, xs, rfl, sq_same r2.ex hq, by rw [ra.length, hl], gNs_of (by rw [ra.length, hl]) (main xs dvs ra hb)⟩
  · have e : i = ds.length := by omega
    subst e
    exact .inl ⟨w.stops F' σ H' G M' s' r' cM, k L acc H' F' M' (fn acc M' hI hM) hM (s1.trans s') r'⟩
/-- from a comprehension that changes no cell -/
theorem LcP.toM {scope : Scope} {own : List Nat} {t : Tg} {ifs : List Expr} {ds : List D} {f : D → Option D} {C : Mem → Prop} {fin : Addr → List D → Mem → Prop} (lp : LcP B X scope own t ifs elt G ds M f)
    (hC : ∀ M', Ext M M' → C M') (q : ∀ L, M L = none → fin L (ds.filterMap f) (mupd M L (.lst (ds.filterMap f)))) : LcXM B X scope own t ifs elt G ds C M fin := by
  intro L hL
  obtain ⟨hlen, hh⟩ := lp
  refine ⟨fun i acc M' => acc = (ds.take i).filterMap f ∧ M' = mupd M L (.lst acc), ⟨rfl, rfl⟩, ?_, ?_, ?_⟩
  · rintro i acc M' ⟨_, e⟩ _
    rw [e]
    exact hC _ (Ext.new hL)
  · rintro i d acc M' hd ⟨ea, eM⟩ hM
    have hle : ∀ a o, M a = some o → M' a = some o := fun a o e => by rw [eM, mupd_ne (mne e hL)]; exact e
    have tk : (ds.take (i + 1)).filterMap f = (ds.take i).filterMap f ++ (f d).toList := by
      rw [List.take_add_one, hd, List.filterMap_append]
      cases e : f d <;> simp [e]
    have ln : acc.length < sizeLine := by
      have h1 : ((ds.take i).filterMap f).length ≤ (ds.take i).length := List.length_filterMap_le f _
      have h2 : (ds.take i).length ≤ ds.length := by rw [List.length_take]; omega
      rw [ea]; omega
    have step : ∀ dvs, (Bk X scope fun X' => TXs B X' ifs (gsetAll (gwipe G own) t.slots dvs) M' fun b M3 =>
        if b = true then Bk X scope fun X2 => EX B X2 elt (gsetAll (gwipe G own) t.slots dvs) M3 fun y M4 => M4 = M' ∧ f d = some y else M3 = M' ∧ f d = none) →
        Bk X scope fun X' => TXs B X' ifs (gsetAll (gwipe G own) t.slots dvs) M' fun b M3 =>
          if b = true then Bk X scope fun X2 => EX B X2 elt (gsetAll (gwipe G own) t.slots dvs) M3 fun y M4 => M4 L = some (.lst acc) ∧ acc.length < sizeLine ∧ (acc ++ [y] = (ds.take (i + 1)).filterMap f ∧ mupd M4 L (.lst (acc ++ [y])) = mupd M L (.lst (acc ++ [y])))
          else M3 L = some (.lst acc) ∧ (acc = (ds.take (i + 1)).filterMap f ∧ M3 = mupd M L (.lst acc)) := by
      intro dvs hb s0 H0 C cl fp
      have post : ∀ (b : Bool) (M3 : Mem), (if b = true then Bk X scope fun X2 => EX B X2 elt (gsetAll (gwipe G own) t.slots dvs) M3 fun y M4 => M4 = M' ∧ f d = some y else M3 = M' ∧ f d = none) →
          if b = true then Bk X scope fun X2 => EX B X2 elt (gsetAll (gwipe G own) t.slots dvs) M3 fun y M4 => M4 L = some (.lst acc) ∧ acc.length < sizeLine ∧ (acc ++ [y] = (ds.take (i + 1)).filterMap f ∧ mupd M4 L (.lst (acc ++ [y])) = mupd M L (.lst (acc ++ [y])))
          else M3 L = some (.lst acc) ∧ (acc = (ds.take (i + 1)).filterMap f ∧ M3 = mupd M L (.lst acc)) := fun b M3 z =>
        ite_mono z (fun z s1 H1 C1 cl1 fp1 => (z s1 H1 C1 cl1 fp1).imp fun y M4 ⟨e4, ef⟩ => by
          subst e4
          refine ⟨hM, ln, ?_, ?_⟩
          · rw [tk, ef, ← ea]; rfl
          · rw [eM, mupd_mupd]) fun ⟨e3, ef⟩ => by
          subst e3
          refine ⟨hM, ?_, eM⟩
          rw [tk, ef, ← ea]; simp
      have z := hb s0 H0 C cl fp
      match ifs, z with
      | [], z => exact post true M' z
      | [c], z => exact TX.imp z post
    have hh := hh d M' (List.mem_of_getElem? hd) hle
    cases t with
    | inl j => exact step [d] hh
    | inr js =>
      obtain ⟨dvs, e, hl', hb⟩ := hh
      exact ⟨dvs, e, hl', step dvs hb⟩
  · rintro acc M' ⟨ea, eM⟩ hM
    rw [List.take_length] at ea
    rw [eM, ea]
    exact q L hL
theorem Ext.isL {M M' : Mem} {d : D} {ds : List D} (e : Ext M M') (h : IsL M d ds) : IsL M' d ds := by
  rcases h with h | ⟨l, h1, h2⟩
  · exact .inl h
  · exact .inr ⟨l, h1, e _ _ h2⟩
/-- a comprehension that changes no cell, over a list (frozen, or a cell that stays) -/
theorem ex_lci {scope : Scope} {own : List (Str × Nat)} {t : Tg} {ifs : List Expr} (f : D → Option D) (hc : X.calm = true) (hN : X.N.Nodup) (ok : BlkOk X.N X.env.scope scope own) (ht : ∀ i ∈ t.slots, i ∈ own.map (·.2))
    (hg : Bk X scope fun X' => PG X' tg (gTg X.K t)) (hs : ∀ x, foldedSetIterable iter X.env x = pure x)
    (h : EX B X iter G M fun d M1 => ∃ ds, IsL M1 d ds ∧ LcP B X scope (own.map (·.2)) t ifs elt G ds M1 f ∧ Q (.lst (ds.filterMap f)) M1) : EX B X (.ListComp elt [⟨tg, iter, ifs, 0⟩] scope pos) G M Q := fun F σ H Q' r k =>
  WE.of (pe_lc hc hN pi_wi ok hg pts_wtb pe_web hs) (lc_dataM (fin := fun L acc M' => Q (.lst acc) (mdel M' L)) ht r (lxm_isL (h.imp fun d M1 ⟨ds, hL, lp, q⟩ => ⟨ds, hL, lp.toM (fun M' e => e.isL hL) fun L hL => by
      rw [mdel_mupd hL]; exact q⟩)) fun L acc H' F' M' q hm s' r' => by
    obtain ⟨F2, s2, r2, p2⟩ := r'.freeze hm
    exact k _ H' F2 _ _ q (s'.trans s2) r2 p2)
theorem ex_lciM {scope : Scope} {own : List (Str × Nat)} {t : Tg} {ifs : List Expr} (f : D → Option D) (hc : X.calm = true) (hN : X.N.Nodup) (ok : BlkOk X.N X.env.scope scope own) (ht : ∀ i ∈ t.slots, i ∈ own.map (·.2))
    (hg : Bk X scope fun X' => PG X' tg (gTg X.K t)) (hs : ∀ x, foldedSetIterable iter X.env x = pure x)
    (h : EX B X iter G M fun d M1 => ∃ ds, IsL M1 d ds ∧ LcP B X scope (own.map (·.2)) t ifs elt G ds M1 f ∧ ∀ l, M1 l = none → Q (.ref l) (mupd M1 l (.lst (ds.filterMap f)))) : EX B X (.ListComp elt [⟨tg, iter, ifs, 0⟩] scope pos) G M Q := fun F σ H Q' r k =>
  WE.of (pe_lc hc hN pi_wi ok hg pts_wtb pe_web hs) (lc_dataM (fin := fun L acc M' => Q (.ref L) M') ht r (lxm_isL (h.imp fun d M1 ⟨ds, hL, lp, q⟩ => ⟨ds, hL, lp.toM (fun M' e => e.isL hL) fun L hL => q L hL⟩)) fun L acc H' F' M' q hm s' r' => k _ H' F' _ _ q s' r' (.ref L))
theorem sx_setLci {i : Nat} {y : Str} {py spos : Pos} {scope : Scope} {own : List (Str × Nat)} {t : Tg} {ifs : List Expr} (f : D → Option D) (hc : X.calm = true) (hN : X.N.Nodup) (hy : X.N[i]? = some y) (hyl : X.env.scope.names.lookup y = some .local)
    (hsw : swapsWith (.ListComp elt [⟨tg, iter, ifs, 0⟩] scope pos) (some (.Name y py)) spos.line X.env = pure true) (ok : BlkOk X.N X.env.scope scope own) (ht : ∀ i ∈ t.slots, i ∈ own.map (·.2))
    (hg : Bk X scope fun X' => PG X' tg (gTg X.K t)) (hs : ∀ x, foldedSetIterable iter X.env x = pure x)
    (h : EX B X iter G M fun d M1 => ∃ ds, IsL M1 d ds ∧ LcP B X scope (own.map (·.2)) t ifs elt G ds M1 f ∧ E.nx (G.set i (some (.lst (ds.filterMap f)))) M1) : SX B X (.Assign [.Name y py] (.ListComp elt [⟨tg, iter, ifs, 0⟩] scope pos) spos) E G M := fun F σ H D' r k =>
  WS.of (ps_setLc hc hN hy hyl hsw pi_wi ok hg pts_wtb pe_web hs) (lc_dataM (fin := fun L acc M' => E.nx (G.set i (some (.lst acc))) (mdel M' L)) ht r (lxm_isL (h.imp fun d M1 ⟨ds, hL, lp, q⟩ => ⟨ds, hL, lp.toM (fun M' e => e.isL hL) fun L hL => by
      rw [mdel_mupd hL]; exact q⟩)) fun L acc H' F' M' q hm s' r' => by
    obtain ⟨F2, s2, r2, p2⟩ := r'.freeze hm
    exact k.nx _ H' F2 _ _ q (s'.trans s2) (R.set r2 p2))
end
/-! ### fields -/
/-- the class at C, and names that it has not -/
structure Ki (K : PySem.W.Frag) (C : Addr) (l : List Str) : Prop where
  cls : Cls K C
  no : ∀ f ∈ l, NoAttr K C f
theorem lk_hit {k : Str} {d : D} {r : List (Str × D)} : List.lookup k ((k, d) :: r) = some d := by simp [List.lookup]
theorem lk_skip {k k' : Str} {d e : D} {r : List (Str × D)} (h : (k == k') = false) (q : List.lookup k r = some e) : List.lookup k ((k', d) :: r) = some e := by simp [List.lookup, h, q]
theorem lk_nil {k : Str} : List.lookup k ([] : List (Str × D)) = none := rfl
theorem lk_none {k k' : Str} {d : D} {r : List (Str × D)} (h : (k == k') = false) (q : List.lookup k r = none) : List.lookup k ((k', d) :: r) = none := by simp [List.lookup, h, q]
theorem put_hit {k : Str} {d e : D} {r : List (Str × D)} : putD k d ((k, e) :: r) = (k, d) :: r := by simp [putD]
theorem put_skip {k k' : Str} {d e : D} {r r' : List (Str × D)} (h : (k' == k) = false) (q : putD k d r = r') : putD k d ((k', e) :: r) = (k', e) :: r' := by
  have h' : ¬ k' = k := by simpa using h
  rw [putD, if_neg h', q]
theorem put_nil {k : Str} {d : D} : putD k d [] = [(k, d)] := rfl
section
variable {B : Bs} {X : Cx} {a b c e o value : Expr} {es : List Expr} {G G' : Sl} {M M' : Mem} {Q : D → Mem → Prop} {E : En} {pos p pos' apos : Pos} {f : Str}
theorem fld_at {K : PySem.W.Frag} {x C : Addr} {fs : List (Str × D)} {v : D} {l : List Str} (hm : M x = some (.ins C fs)) (k : Ki K C l) (hf : f ∈ l) (hl : fs.lookup f = some v) (q : Q v M) :
    ∃ a C fs v, D.ref x = .ref a ∧ M a = some (.ins C fs) ∧ Cls K C ∧ NoAttr K C f ∧ fs.lookup f = some v ∧ Q v M := ⟨x, C, fs, v, rfl, hm, k.cls, k.no f hf, hl, q⟩
theorem sx_fldK (hs : swapsWith value (some (.Attribute o f pos')) pos.line X.env = pure false) (h : EX B X value G M fun d M1 => EX B X o G M1 fun d2 M2 => ∃ x C fs fs' l, d2 = .ref x ∧ M2 x = some (.ins C fs) ∧ Ki X.K C l ∧ f ∈ l ∧ fs.length < 1000 ∧ putD f d fs = fs' ∧ E.nx G (mupd M2 x (.ins C fs'))) :
    SX B X (.Assign [.Attribute o f pos'] value pos) E G M :=
  fun F σ H D' r k =>
  WS.of (ps_fld pe_we pe_we hs) (h F σ H _ r fun v1 H1 F1 d1 M1 q1 s1 r1 p1 => q1 F1 σ H1 _ r1 fun v2 H2 F2 d2 M2 ⟨a, C, fs, fs', l, e2, hm, kk, hf, hl, hput, q⟩ s2 r2 p2 => by
    subst e2; cases p2; subst hput
    obtain ⟨_, dx, vs, hx, rx⟩ := r2.mem a _ hm
    refine ⟨a, C, dx, vs, rfl, hx, kk.cls, kk.no f hf, by rw [rx.len]; exact hl, k.nx _ _ F2 _ _ q (s1.trans s2) (r2.write hm ⟨dx, _, upd_same, rx.put (p1.mono s2)⟩)⟩)
theorem put_at {K : PySem.W.Frag} {x C : Addr} {fs fs' : List (Str × D)} {d : D} {l : List Str} {P : Mem → Prop} (hm : M x = some (.ins C fs)) (k : Ki K C l) (hf : f ∈ l) (hl : fs.length < 1000) (hp : putD f d fs = fs') (q : P (mupd M x (.ins C fs'))) :
    ∃ x' C fs fs' l, D.ref x = .ref x' ∧ M x' = some (.ins C fs) ∧ Ki K C l ∧ f ∈ l ∧ fs.length < 1000 ∧ putD f d fs = fs' ∧ P (mupd M x' (.ins C fs')) := ⟨x, C, fs, fs', l, rfl, hm, k, hf, hl, hp, q⟩
/-- o.m(e, ..), the class by the receiver -/
theorem ex_methV {pl : Sem Bool} {m : Str} (hst : starEach (e :: es) X.env = (false, eval e X.env) :: starEach es X.env) (hpl : (backTo pos (starEach es X.env)).any (·.1) = false)
    (ht : eval (.Call (.Attribute o m apos) (e :: es) [] pos) X.env = (do
      let ov ← eval o X.env
      standAt apos.atName
      let (f, first) ← holding [ov] (getMethod ov m pl)
      callWith pos f first (backTo pos (starEach (e :: es) X.env)) (backToKw pos (keywordEach [] X.env))))
    (h : EX B X o G M fun d M1 => ∃ a C fs k sp, d = .ref a ∧ M1 a = some (.ins C fs) ∧ Mth X.prog X.w X.K X.mg X.base k C m sp ∧ Room k X.A ∧ fs.lookup m = none ∧ AX B X (e :: es) G M1 fun ds M2 => sp (.ref a :: ds) M2 Q) : EX B X (.Call (.Attribute o m apos) (e :: es) [] pos) G M Q := fun F σ H Q' r kk => by
  intro pins s I
  refine PySem.W.methodCall_KW (pl := pl) (thn (h F σ H (fun x H1 => ∃ a C dx fs f fd ps sp k, x = .ref a ∧ H1 a = some (.ins C dx fs) ∧ fs.lookup m = none ∧ FnOk X.prog X.w X.K X.mg X.base CX0 k f fd ps (lift X.K sp) ∧ Cls X.K C ∧ Meth X.K C m f ∧ Binds X.K fd ps [] ∧ Room k X.A ∧ WA X (e :: es) σ H1 fun vs H2 => lift X.K sp (.ref a :: vs) H2 Q' E0) r ?_ pins s I) fun u s1 ⟨x, H1, I1, rx, a, C, dx, fs, f, fd, ps, sp, k, ex, ea, l, Fo, cl, me, bd, hr, q⟩ => ?_) ht
  · rintro v H1 F1 d1 M1 ⟨a, C, fs, k, sp, e1, hm, c, hr, l, q⟩ s1 r1 p1
    subst e1; cases p1
    obtain ⟨f, fd, ps, Fo, cl, me, bd⟩ := c.ex
    obtain ⟨_, dx, vs, hx, rx⟩ := r1.mem a _ hm
    refine ⟨a, C, dx, vs, f, fd, ps, sp, k, rfl, hx, rx.none l, Fo, cl, me, bd, hr, q F1 σ H1 _ r1 fun us H2 F2 ds M2 q2 s2 r2 p2 => ?_⟩
    exact lift_use r2 (.cons (.ref a) p2) q2 (kk.mono (s1.trans s2))
  · subst ex
    obtain rfl : u = Value.ref a := rx
    refine getmeth_ok I1 ea cl me l ?_
    refine PySem.W.callWith_K (first := [.ref a]) (h₀ := X.base) I.ok.mod.kin me.kp (thn (q pos pins s1 I1) fun us s2 ⟨vs, H2, I2, r, q2⟩ => ⟨I2.kIn, ?_⟩) hst hpl
    exact run_fn (us := .ref a :: us) (vs := .ref a :: vs) (dvs := []) (ds := []) Fo hr bd .nil pass0 I2 (.cons rfl r) (by rw [List.append_nil]; exact q2)
theorem ex_methV0 {pl : Sem Bool} {m : Str}
    (ht : eval (.Call (.Attribute o m apos) [] [] pos) X.env = (do
      let ov ← eval o X.env
      standAt apos.atName
      let (f, first) ← holding [ov] (getMethod ov m pl)
      callWith pos f first (backTo pos (starEach [] X.env)) (backToKw pos (keywordEach [] X.env))))
    (h : EX B X o G M fun d M1 => ∃ a C fs k sp, d = .ref a ∧ M1 a = some (.ins C fs) ∧ Mth X.prog X.w X.K X.mg X.base k C m sp ∧ Room k X.A ∧ fs.lookup m = none ∧ sp [.ref a] M1 Q) : EX B X (.Call (.Attribute o m apos) [] [] pos) G M Q := fun F σ H Q' r kk => by
  intro pins s I
  refine PySem.W.methodCall_KW (pl := pl) (thn (h F σ H (fun x H1 => ∃ a C dx fs f fd ps sp k, x = .ref a ∧ H1 a = some (.ins C dx fs) ∧ fs.lookup m = none ∧ FnOk X.prog X.w X.K X.mg X.base CX0 k f fd ps (lift X.K sp) ∧ Cls X.K C ∧ Meth X.K C m f ∧ Binds X.K fd ps [] ∧ Room k X.A ∧ lift X.K sp [.ref a] H1 Q' E0) r ?_ pins s I) fun u s1 ⟨x, H1, I1, rx, a, C, dx, fs, f, fd, ps, sp, k, ex, ea, l, Fo, cl, me, bd, hr, q⟩ => ?_) ht
  · rintro v H1 F1 d1 M1 ⟨a, C, fs, k, sp, e1, hm, c, hr, l, q⟩ s1 r1 p1
    subst e1; cases p1
    obtain ⟨f, fd, ps, Fo, cl, me, bd⟩ := c.ex
    obtain ⟨_, dx, vs, hx, rx⟩ := r1.mem a _ hm
    exact ⟨a, C, dx, vs, f, fd, ps, sp, k, rfl, hx, rx.none l, Fo, cl, me, bd, hr, lift_use r1 (.cons (.ref a) .nil) q (kk.mono s1)⟩
  · subst ex
    obtain rfl : u = Value.ref a := rx
    refine getmeth_ok I1 ea cl me l ?_
    exact PySem.W.callWith_K0 (first := [.ref a]) I1.kIn me.kp (run_fn (us := [.ref a]) (vs := [.ref a]) (dvs := []) (ds := []) Fo hr bd .nil pass0 I1 (.cons rfl .nil) q)
theorem meth_at {P : Program} {w : World} {K : PySem.W.Frag} {mg : Str → Option Value} {base : Heap} {A : Around} {x C : Addr} {fs : List (Str × D)} {k : Nat} {m : Str} {sp : DSp} {P2 : Addr → DSp → Prop} (hm : M x = some (.ins C fs)) (c : Mth P w K mg base k C m sp) (hr : Room k A) (hl : fs.lookup m = none) (q : P2 x sp) :
    ∃ a C fs k sp, D.ref x = .ref a ∧ M a = some (.ins C fs) ∧ Mth P w K mg base k C m sp ∧ Room k A ∧ fs.lookup m = none ∧ P2 a sp := ⟨x, C, fs, k, sp, rfl, hm, c, hr, hl, q⟩
end
end FL

/-! dicts by numbers and texts: displays, get -/
namespace FL
open PySem PySem.Spec PyProof.Rows L2
def kD : Key → D
  | .inl i => .int i
  | .inr x => .str x
def valD (kds : List (Key × D)) (k : Key) : Option D := (kds.find? fun kd => decide (kd.1 = k)).map (·.2)
/-- a dict of kds: frozen, or a cell -/
def IsK (M : Mem) (d : D) (kds : List (Key × D)) : Prop := d = .dK kds ∨ ∃ l, d = .ref l ∧ M l = some (.dK kds)
section
variable {K : PySem.W.Frag} {F : Hp}
theorem RpKey.val {k : Key} : ∀ {kvs : List (Key × V)} {kds : List (Key × D)}, RpKey K F kvs kds → (valV kvs k = none ∧ valD kds k = none) ∨ ∃ v d, valV kvs k = some v ∧ valD kds k = some d ∧ Rp K F v d
  | _, _, .nil => .inl ⟨rfl, rfl⟩
  | _, _, @RpKey.cons _ _ k' v vs d ds p r => by
    by_cases e : k' = k
    · exact .inr ⟨v, d, valV_pos (p := (k', v)) e, by unfold valD; simp [e], p⟩
    · have e1 : valV ((k', v) :: vs) k = valV vs k := valV_neg (p := (k', v)) e
      have e2 : valD ((k', d) :: ds) k = valD ds k := by unfold valD; simp [e]
      rw [e1, e2]
      exact r.val
theorem Rp.key {v : V} {k : Key} (h : Rp K F v (kD k)) : v = kV k := by
  cases k with
  | inl i => cases h; rfl
  | inr x => cases h; rfl
theorem putK_app {kvs : List (Key × V)} {k : Key} {v : V} (h : k ∉ kvs.map (·.1)) : putK kvs k v = kvs ++ [(k, v)] := by
  unfold putK
  rw [if_neg]
  intro z
  obtain ⟨kv, h1, h2⟩ := List.any_eq_true.mp z
  exact h (List.mem_map.mpr ⟨kv, h1, of_decide_eq_true h2⟩)
theorem mergeK_app : ∀ {more kvs : List (Key × V)}, ((kvs ++ more).map (·.1)).Nodup → mergeK kvs more = kvs ++ more
  | [], kvs, _ => by unfold mergeK; simp
  | (k, v) :: more, kvs, h => by
    have e : mergeK kvs ((k, v) :: more) = mergeK (putK kvs k v) more := rfl
    have hk : k ∉ kvs.map (·.1) := by
      intro z
      rw [List.map_append, List.nodup_append] at h
      exact h.2.2 k z k (by simp) rfl
    rw [e, putK_app hk, mergeK_app (by simpa using h)]
    simp
end
inductive RpP (K : PySem.W.Frag) (F : Hp) : List (V × V) → List (D × D) → Prop
  | nil : RpP K F [] []
  | cons {v w : V} {d e : D} {vs : List (V × V)} {ds : List (D × D)} : Rp K F v d → Rp K F w e → RpP K F vs ds → RpP K F ((v, w) :: vs) ((d, e) :: ds)
theorem RpP.mono {K : PySem.W.Frag} {F F' : Hp} (s : Same F F') : ∀ {vs : List (V × V)} {ds : List (D × D)}, RpP K F vs ds → RpP K F' vs ds
  | _, _, .nil => .nil
  | _, _, .cons a b r => .cons (a.mono s) (b.mono s) (RpP.mono s r)
theorem RpP.keys {K : PySem.W.Frag} {F : Hp} : ∀ {vs : List (V × V)} {kds : List (Key × D)}, RpP K F vs (kds.map fun kd => (kD kd.1, kd.2)) → ∃ kvs : List (Key × V), vs = kvs.map (fun kv => (kV kv.1, kv.2)) ∧ RpKey K F kvs kds ∧ kvs.map (·.1) = kds.map (·.1)
  | vs, [], h => by cases h; exact ⟨[], rfl, .nil, rfl⟩
  | vs, (k, d) :: kds, h => by
    rw [List.map_cons] at h
    cases h with
    | @cons v w _ _ vs' _ a b r =>
      obtain ⟨kvs, e, rk, ek⟩ := r.keys
      have ev := a.key
      subst ev
      exact ⟨(k, w) :: kvs, by rw [e]; rfl, .cons b rk, by rw [List.map_cons, List.map_cons, ek]⟩
def PX (B : Bs) (X : Cx) : List (Option Expr) → List Expr → Sl → Mem → (List (D × D) → Mem → Prop) → Prop
  | some k :: ks, v :: vs, G, M, Q => EX B X k G M fun x M1 => EX B X v G M1 fun y M2 => PX B X ks vs G M2 fun ps M3 => Q ((x, y) :: ps) M3
  | [], [], _, M, Q => Q [] M
  | _, _, _, _, _ => False
def trsOf (X : Cx) : List (Option Expr) → List Expr → List (TE × TE)
  | some k :: ks, v :: vs => (WE X k, WE X v) :: trsOf X ks vs
  | _, _ => []
theorem pps_px {B : Bs} {X : Cx} {pos : Pos} : ∀ {ks : List (Option Expr)} {vs : List Expr}, ks.all (·.isSome) = true → ks.length = vs.length → PPs X pos ks vs (trsOf X ks vs)
  | [], [], _, _ => pps_nil
  | [], _ :: _, _, h => by simp at h
  | _ :: _, [], _, h => by simp at h
  | none :: _, _ :: _, h, _ => by simp at h
  | some k :: ks, v :: vs, h, hl => pps_cons pe_we pe_we (pps_px (B := B) (by simpa using h) (by simpa using hl))
theorem px_run {B : Bs} {X : Cx} {G : Sl} {σ : L2.St} : ∀ {ks : List (Option Expr)} {vs : List Expr} {M : Mem} {F H : Hp} {Q : List (D × D) → Mem → Prop} {Q' : List (V × V) → Hp → Prop}, PX B X ks vs G M Q → R B X.K F σ H G M →
    (∀ ps H' F' ds M', Q ds M' → Same F F' → R B X.K F' σ H' G M' → RpP X.K F' ps ds → Q' ps H') → tPairs (trsOf X ks vs) σ H Q'
  | [], [], M, F, H, Q, Q', h, r, k => k [] H F [] M h (Same.refl F) r .nil
  | some a :: ks, b :: vs, M, F, H, Q, Q', h, r, k => by
    show WE X a σ H fun x H1 => WE X b σ H1 fun y H2 => tPairs (trsOf X ks vs) σ H2 fun ps H3 => Q' ((x, y) :: ps) H3
    have h' : EX B X a G M fun x M1 => EX B X b G M1 fun y M2 => PX B X ks vs G M2 fun ps M3 => Q ((x, y) :: ps) M3 := h
    refine h' F σ H _ r fun v1 H1 F1 d1 M1 q1 s1 r1 p1 => q1 F1 σ H1 _ r1 fun v2 H2 F2 d2 M2 q2 s2 r2 p2 => ?_
    exact px_run q2 r2 fun ps H3 F3 ds M3 q3 s3 r3 p3 => k _ H3 F3 _ M3 q3 (s1.trans (s2.trans s3)) r3 (.cons (p1.mono (s2.trans s3)) (p2.mono s3) p3)
  | [], _ :: _, _, _, _, _, _, h, _, _ => False.elim h
  | none :: _, _, _, _, _, _, _, h, _, _ => False.elim h
  | some _ :: _, [], _, _, _, _, _, h, _, _ => False.elim h
section
variable {B : Bs} {X : Cx} {a b c e o f : Expr} {G : Sl} {M : Mem} {Q : D → Mem → Prop} {pos apos : Pos}
/-- a test that comes out so, and changes nothing -/
theorem sx_ifF {A1 B1 : List Stmt} {E : En} (h : TX B X c G M fun t M1 => t = false ∧ M1 = M) (q : SXs B X B1 E G M) : SX B X (.If c A1 B1 pos) E G M := sx_if (h.imp fun t M1 ⟨e1, e2⟩ => by subst e1; subst e2; exact iteF q)
theorem sx_ifT {A1 B1 : List Stmt} {E : En} (h : TX B X c G M fun t M1 => t = true ∧ M1 = M) (q : SXs B X A1 E G M) : SX B X (.If c A1 B1 pos) E G M := sx_if (h.imp fun t M1 ⟨e1, e2⟩ => by subst e1; subst e2; exact iteT q)
/-- .. whichever way -/
theorem sx_ifB {A1 B1 : List Stmt} {E : En} (t0 : Bool) (h : TX B X c G M fun t M1 => t = t0 ∧ M1 = M) (q1 : t0 = true → SXs B X A1 E G M) (q2 : t0 = false → SXs B X B1 E G M) : SX B X (.If c A1 B1 pos) E G M := sx_if (h.imp fun t M1 ⟨e1, e2⟩ => by
  subst e1; subst e2
  cases t with
  | true => exact iteT (q1 rfl)
  | false => exact iteF (q2 rfl))
/-- .. and leaves cells of which Pm holds -/
theorem sx_ifQ {A1 B1 : List Stmt} {E : En} (Pm : Mem → Prop) (h : TX B X c G M fun t M1 => t = false ∧ Pm M1) (q : ∀ M1, Pm M1 → SXs B X B1 E G M1) : SX B X (.If c A1 B1 pos) E G M := sx_if (h.imp fun t M1 ⟨e1, e2⟩ => by subst e1; exact iteF (q M1 e2))
theorem px_cons {ks : List (Option Expr)} {vs : List Expr} {Q : List (D × D) → Mem → Prop} (h : EX B X a G M fun x M1 => EX B X b G M1 fun y M2 => PX B X ks vs G M2 fun ps M3 => Q ((x, y) :: ps) M3) : PX B X (some a :: ks) (b :: vs) G M Q := h
theorem px_nil {Q : List (D × D) → Mem → Prop} (h : Q [] M) : PX B X [] [] G M Q := h
/-- a dict that stays -/
theorem ex_disp {keys : List (Option Expr)} {values : List Expr} (hall : keys.all (·.isSome) = true) (hl : keys.length = values.length) (h0 : keys ≠ []) (h15 : keys.length ≤ 15)
    (h : ∀ p, M p = none → PX B X keys values G (mupd M p (.dK [])) fun ps M2 => M2 p = some (.dK []) ∧ ∃ kds : List (Key × D), ps = kds.map (fun kd => (kD kd.1, kd.2)) ∧ (kds.map (·.1)).Nodup ∧ kds.length ≤ 15 ∧ Q (.dK kds) (mdel M2 p)) : EX B X (.Dict keys values pos) G M Q := fun F σ H Q' r k =>
  WE.of (pe_disp (pps_px (B := B) hall hl) hall hl h0 h15) fun p hp => px_run (h p (r.freeM hp)) (r.newCell hp ⟨[], upd_same, .nil⟩) fun ps H2 F2 ds M2 q s2 r2 rp => by
    obtain ⟨hm, kds, e, nd, l15, q⟩ := q
    subst e
    obtain ⟨kvs, e, rk, ek⟩ := rp.keys
    obtain ⟨fp, vs, hx, rx⟩ := r2.mem p _ hm
    cases rx
    refine ⟨hx, kvs, e, ?_, ?_⟩
    · have := congrArg List.length ek
      rw [List.length_map, List.length_map] at this
      omega
    · have em : mergeK [] kvs = kvs := by
        rw [mergeK_app (kvs := []) (by rw [List.nil_append, ek]; exact nd)]; simp
      rw [em]
      have r3 := r2.write (ho := .dK kvs) (o' := .dK kds) hm ⟨kvs, upd_same, rk⟩
      have e1 : Same F2 (upd F2 p (.dK kvs)) := Same.upd_new fp
      have r4 : R B X.K F2 σ (upd H2 p (.dK kvs)) G (mdel M2 p) := r3.less fun a o q => by
        unfold mdel at q
        split at q
        · cases q
        · rename_i hb
          rw [mupd_ne hb]; exact q
      refine k _ _ (upd F2 p (.dK kvs)) _ _ q (s2.trans e1) (R.grow e1 (fun b u q => ?_) (fun a u q => ?_) r4) (.dK upd_same (rk.mono e1))
      · by_cases hb : b = p
        · subst hb; rw [upd_same] at q ⊢; exact q
        · rw [upd_ne hb] at q; exact r4.ex b u q
      · have hb : a ≠ p := fun z => by
          subst z
          unfold mdel at q
          rw [if_pos rfl] at q; cases q
        rw [upd_ne hb]; exact (r4.mem a u q).1
theorem IsK.at {K : PySem.W.Frag} {F H : Hp} {σ : L2.St} {d : D} {kds : List (Key × D)} {v : V} (h : IsK M d kds) (r : R B K F σ H G M) (p : Rp K F v d) : ∃ a kvs, v = .ref a ∧ H a = some (.dK kvs) ∧ RpKey K F kvs kds := by
  rcases h with rfl | ⟨l, rfl, hm⟩
  · cases p with
    | @dK a kvs _ hs rs => exact ⟨a, kvs, rfl, r.ex _ _ hs, rs⟩
  · cases p
    obtain ⟨_, kvs, hx, rx⟩ := r.mem l _ hm
    exact ⟨l, kvs, rfl, hx, rx⟩
/-- d.get(k, x) -/
theorem ex_dget2 (hu : X.A.units + 1 < cLine) (m : M2 X o "get" apos e f pos)
    (h : EX B X o G M fun d M1 => ∃ kds, IsK M1 d kds ∧ EX B X e G M1 fun y M2 => EX B X f G M2 fun z M3 => ∃ k, y = kD k ∧ IsK M3 d kds ∧ Q ((valD kds k).getD z) M3) : EX B X (.Call (.Attribute o "get" apos) [e, f] [] pos) G M Q := fun F σ H Q' r k =>
  WE.of (pe_dget2 hu pe_we pe_we pe_we m) (h F σ H _ r fun v1 H1 F1 d1 M1 ⟨kds, hk, q1⟩ s1 r1 p1 => by
    obtain ⟨a, kvs, rfl, hx, rx⟩ := hk.at r1 p1
    refine ⟨a, rfl, .inl ⟨kvs, .inl hx⟩, q1 F1 σ H1 _ r1 fun v2 H2 F2 d2 M2 q2 s2 r2 p2 => q2 F2 σ H2 _ r2 fun v3 H3 F3 d3 M3 ⟨kk, ey, hk3, q3⟩ s3 r3 p3 => ?_⟩
    subst ey
    have ev := p2.key
    subst ev
    obtain ⟨a', kvs', e', hx', rx'⟩ := hk3.at r3 (p1.mono (s2.trans s3))
    cases e'
    refine ⟨valV kvs' kk, DGet.k hx', ?_⟩
    have kk3 := k.mono (s1.trans (s2.trans s3))
    rcases rx'.val (k := kk) with ⟨e1, e2⟩ | ⟨v, d, e1, e2, rv⟩
    · rw [e1]
      rw [e2] at q3
      exact kk3.at r3 q3 p3
    · rw [e1]
      rw [e2] at q3
      exact kk3.at r3 q3 rv)
end
end FL

/-! errors: raised, let out, caught -/
namespace FL
open PySem PySem.Spec PyProof.Rows L2
theorem Blt.any {X : Cx} {x : Str} {v : Value} (m : X.mg x = none) (g : Gl X x) (b : bootBuiltins x = some v) (n : x ≠ "__name__" := by decide) (d : (x == ("__debug__" : Str)) = false := by decide) : Blt X x v := ⟨g, m, b, n, d⟩
theorem bb_VE : bootBuiltins "ValueError" = some (.type "ValueError") := by decide +kernel
/-- an error as data: its class, and its field, a number -/
structure XD where
  C : Addr
  fl : Option (Str × Int)
def XRp (M : Mem) (cls : Value) (d : Option Addr) (x : XD) : Prop := cls = .ref x.C ∧ match x.fl with
  | none => d = none
  | some (f, n) => ∃ dd, d = some dd ∧ M dd = some (.xd f n)
/-- as R, of no slots -/
structure Rn (B : Bs) (K : PySem.W.Frag) (F H : Hp) (M : Mem) : Prop where
  ex : Same F H
  mem : MemOk K F H M
  bf : Same B.F F
  bk : Kp B.M B.H M H
abbrev XQ := XD → Mem → Prop
def XKd (B : Bs) (K : PySem.W.Frag) (Ex : XQ) : XK := fun cls d H => ∃ F M x, Rn B K F H M ∧ XRp M cls d x ∧ Ex x M
def TakesD (B : Bs) (X : Cx) (Ex : XQ) : Prop := Takes X (fun cls d _ H => XKd B X.K Ex cls d H)
/-- a promise to raise -/
abbrev DSpX := List D → Mem → XQ → Prop
def liftX (K : PySem.W.Frag) (sp : DSpX) : Sp := fun vs H _ E => ∃ F ds M Ex, RpAll K F vs ds ∧ Same F H ∧ MemOk K F H M ∧ sp ds M Ex ∧ ∀ x M', Ex x M' → ∀ cls d H' F', Same F F' → Kp M H M' H' → Same F' H' → MemOk K F' H' M' → XRp M' cls d x → E cls d H'
structure DfX (P : Program) (w : World) (K : PySem.W.Frag) (mg : Str → Option Value) (base : Heap) (k : Nat) (x : Str) (sp : DSpX) : Prop where
  ex : ∃ (f : Addr) (fd : FuncData) (ps : List Str), FnOk P w K mg base (L2.CX P w) k f fd ps (liftX K sp) ∧ mg x = some (.ref f) ∧ PySem.W.keepIn K (.ref f) = true ∧ Binds K fd ps []
structure MtX (P : Program) (w : World) (K : PySem.W.Frag) (mg : Str → Option Value) (base : Heap) (k : Nat) (C : Addr) (m : Str) (sp : DSpX) : Prop where
  ex : ∃ (f : Addr) (fd : FuncData) (ps : List Str), FnOk P w K mg base (L2.CX P w) k f fd ps (liftX K sp) ∧ Cls K C ∧ Meth K C m f ∧ Binds K fd ps []
section
variable {B : Bs} {X : Cx} {a b c e o : Expr} {es : List Expr} {G G' : Sl} {M M' : Mem} {Q : D → Mem → Prop} {E : En} {pos p pos' apos : Pos} {F F1 : Hp} {σ : L2.St} {k : Nat} {x m : Str} {sp : DSpX} {Ex : XQ} {C : Addr}
theorem R.rn {H : Hp} {K : PySem.W.Frag} (r : R B K F σ H G M) : Rn B K F H M := ⟨r.ex, r.mem, r.bf, r.bk⟩
theorem liftX_use {H1 : Hp} {vs : List V} {ds : List D} {Q' : VK} (r1 : R B X.K F1 σ H1 G M) (p1 : RpAll X.K F1 vs ds) (q : sp ds M Ex) : liftX X.K sp vs H1 Q' (XKd B X.K Ex) :=
  ⟨F1, ds, M, Ex, p1, r1.ex, r1.mem, q, fun x M' qd cls d H' F' s' k' e' m' rp => ⟨F', M', x, ⟨e', m', r1.bf.trans s', r1.bk.trans k'⟩, rp, qd⟩⟩
theorem ex_callX (c : DfX X.prog X.w X.K X.mg X.base k x sp) (tk : TakesD B X Ex) (hr : Room k X.A) (hg : Gl X x) (hdb : (x == ("__debug__" : Str)) = false)
    (he : starEach (e :: es) X.env = (false, eval e X.env) :: starEach es X.env) (hpl : (backTo pos (starEach es X.env)).any (·.1) = false)
    (h : AX B X (e :: es) G M fun ds M1 => sp ds M1 Ex) : EX B X (.Call (.Name x p) (e :: es) [] pos) G M Q := fun F σ H Q' r kk => by
  obtain ⟨f, fd, ps, Fo, mgx, kp, bd⟩ := c.ex
  refine WE.of (pe_call (E := XKd B X.K Ex) Fo hr hg mgx kp bd .nil (passes_call tk fun _ _ _ _ h => h) pa_wa hdb he hpl) (h F σ H _ r fun vs H1 F1 ds M1 q1 s1 r1 p1 => ?_)
  rw [List.append_nil]
  exact liftX_use r1 p1 q1
theorem ex_methX {pl : Sem Bool} (c : MtX X.prog X.w X.K X.mg X.base k C m sp) (tk : TakesD B X Ex) (hr : Room k X.A) (hst : starEach (e :: es) X.env = (false, eval e X.env) :: starEach es X.env) (hpl : (backTo pos (starEach es X.env)).any (·.1) = false)
    (ht : eval (.Call (.Attribute o m apos) (e :: es) [] pos) X.env = (do
      let ov ← eval o X.env
      standAt apos.atName
      let (f, first) ← holding [ov] (getMethod ov m pl)
      callWith pos f first (backTo pos (starEach (e :: es) X.env)) (backToKw pos (keywordEach [] X.env))))
    (h : EX B X o G M fun d M1 => ∃ a fs, d = .ref a ∧ M1 a = some (.ins C fs) ∧ fs.lookup m = none ∧ AX B X (e :: es) G M1 fun ds M2 => sp (.ref a :: ds) M2 Ex) : EX B X (.Call (.Attribute o m apos) (e :: es) [] pos) G M Q := fun F σ H Q' r kk => by
  obtain ⟨f, fd, ps, Fo, cl, me, bd⟩ := c.ex
  refine WE.of (pe_meth (E := XKd B X.K Ex) pe_we cl me Fo hr bd .nil (passes_call tk fun _ _ _ _ h => h) pa_wa hst hpl ht) (h F σ H _ r fun v H1 F1 d1 M1 ⟨a, fs, e1, hm, l, q⟩ s1 r1 p1 => ?_)
  subst e1; cases p1
  obtain ⟨_, dx, vs, hx, rx⟩ := r1.mem a _ hm
  refine ⟨a, dx, vs, rfl, hx, rx.none l, q F1 σ H1 _ r1 fun us H2 F2 ds M2 q2 s2 r2 p2 => ?_⟩
  rw [List.append_nil]
  exact liftX_use r2 (.cons (.ref a) p2) q2
/-- nothing is gone on with -/
abbrev En.no : En := ⟨fun _ _ => False, fun _ _ => False, fun _ _ => False, fun _ _ => False⟩
theorem fun_okX {P : Program} {w : World} {K : PySem.W.Frag} {mg : Str → Option Value} {base : Heap} {x qual : Str} {st : Stmt} {f : Addr} {fd : FuncData} {N ps : List Str} {k : Nat} {sp : DSpX} (Fn : Fun K x qual st f fd) (S : FnScope N ps (defScope st))
    (len : ∀ ds M Ex, sp ds M Ex → ds.length = ps.length)
    (body : ∀ (cdv : Value) (A : Around) (outer : List Env) (s : Shared) (H : Hp) (E : XK), Room k (A.deeper (envOfC qual (defScope st) s.heap.objs.size f cdv)) → ∀ ds M Ex, sp ds M Ex → ∀ B : Bs,
      TakesD B (cxOf (L2.CX P w) P w K mg base N qual (defScope st) f cdv A outer s H E) Ex →
      SXs B (cxOf (L2.CX P w) P w K mg base N qual (defScope st) f cdv A outer s H E) (defBody st) En.no (startD N ds) M) : FnOk P w K mg base (L2.CX P w) (k + 1) f fd ps (liftX K sp) := by
  refine Fn.okX S (fun vs H Q E ⟨F, ds, M, Ex, p, _, _, h, _⟩ => by rw [p.length]; exact len ds M Ex h) fun cdv A outer s H vs Q E hr ⟨F, ds, M, Ex, p, ex, me, h, kk⟩ => ?_
  have tk : TakesD ⟨F, M, H⟩ (cxOf (L2.CX P w) P w K mg base N qual (defScope st) f cdv A outer s H E) Ex := by
    refine Takes.imp (takes_of (E := E) rfl rfl rfl rfl) fun cls d σ H' ⟨F', M', x, r, rp, q⟩ => ?_
    exact kk x M' q cls d H' F' r.bf r.bk r.ex r.mem rp
  refine ⟨_, pss_wss, body cdv A outer s H E hr ds M Ex h ⟨F, M, H⟩ tk F _ H _ ⟨start_ok p, ex, me, Same.refl F, Kp.refl M H⟩ ⟨?_, ?_, ?_, ?_⟩⟩
  · exact fun _ _ _ _ _ q => False.elim q
  · exact fun _ _ _ _ _ q => False.elim q
  · exact fun _ _ _ _ _ q => False.elim q
  · exact fun _ _ _ _ _ q => False.elim q
/-- an error class without __init__ -/
structure XcT (K : PySem.W.Frag) (mg : Str → Option Value) (x : Str) (C : Addr) : Prop where
  q : ∃ bmB, ExcBaseFacts "ValueError" "ValueError.__new__" "ValueError.__init__" bmB ∧ PySem.W.excIn K C bmB "ValueError.__new__" = true
  g : mg x = some (.ref C)
  k : PySem.W.keepIn K (.ref C) = true
  sb : PySem.W.subIn K (.ref C) (.type "BaseException") = some true
  ty : PySem.W.typeIn K (.ref C) = some (.type "type")
theorem sx_raiseT {j : Nat} {p2 : Pos} {t : Str} (c : XcT X.K X.mg x C) (tk : TakesD B X Ex) (hc : X.calm = true) (hg : Gl X x) (hdb : (x == ("__debug__" : Str)) = false) (q : Ex ⟨C, none⟩ M) : SX B X (.Raise (some (.Call (.Name x p) [.Constant (.str t) j p2] [] pos)) none pos') E G M := fun F σ H D' r kk => by
  obtain ⟨bmB, FB, hq⟩ := c.q
  exact WS.of (ps_raise hc tk (pmk_own FB hq c.g c.k (raises_own c.sb c.ty) hg hdb)) ⟨F, M, ⟨C, none⟩, r.rn, ⟨rfl, rfl⟩, q⟩
/-- what __init__ of an error class with one field does -/
def spXI (C : Addr) (f : Str) : Sp := fun vs H Q _ => ∃ (a : Addr) (n : Int), vs = [.ref a, .int n] ∧ 0 ≤ n ∧ n ≤ 1000 ∧ H a = some (exo a C none) ∧ ∀ dx, H dx = none → dx ≠ a → Q .non (upd (upd H dx (exd dx [(f, .int n)])) a (exo a C (some dx)))
/-- an error class with one field, a number -/
structure XcI (P : Program) (w : World) (K : PySem.W.Frag) (mg : Str → Option Value) (base : Heap) (k : Nat) (x : Str) (C : Addr) (f : Str) : Prop where
  T : OexC K C
  g : mg x = some (.ref C)
  i : ∃ (fI : Addr) (fd : FuncData) (ps : List Str), PySem.W.findIn K (.ref C) "__init__" = some (some (.ref fI)) ∧ PySem.W.typeIn K (.ref fI) = some (.type "function") ∧ FnOk P w K mg base CX0 k fI fd ps (spXI C f) ∧ Binds K fd ps []
theorem sx_raiseI {f : Str} (c : XcI X.prog X.w X.K X.mg X.base k x C f) (tk : TakesD B X Ex) (hc : X.calm = true) (hr : Room (k + 1) X.A) (hg : Gl X x) (hdb : (x == ("__debug__" : Str)) = false) (he : starEach [e] X.env = (false, eval e X.env) :: starEach [] X.env) (hpl : (backTo pos (starEach [] X.env)).any (·.1) = false)
    (h : EX B X e G M fun d M1 => ∃ n, d = .int n ∧ 0 ≤ n ∧ n ≤ 1000 ∧ ∀ dd, M1 dd = none → Ex ⟨C, some (f, n)⟩ (mupd M1 dd (.xd f n))) : SX B X (.Raise (some (.Call (.Name x p) [e] [] pos)) none pos') E G M := fun F σ H D' r kk => by
  obtain ⟨fI, fd, ps, i1, i2, Fo, bd⟩ := c.i
  refine WS.of (ps_raise hc tk (pmk_oex c.T i1 i2 Fo hr bd .nil (fun _ _ _ _ _ _ _ z => z.elim) hg c.g (pa_cons pe_we pa_nil he) hdb he hpl)) ?_
  refine h F σ H _ r fun v H1 F1 d M1 ⟨n, e1, n0, n1, q⟩ s1 r1 p1 => ?_
  subst e1; cases p1
  refine ⟨by show 1 ≤ 1000; omega, fun a na => ⟨a, n, rfl, n0, n1, upd_same, fun dx hdx hne => ⟨rfl, dx, [(f, .int n)], upd_same, ?_, ?_, ?_⟩⟩⟩
  · rw [upd_ne hne, upd_same]
  · rw [upd_ne hne] at hdx; exact hdx
  · have hd1 : H1 dx = none := by rw [upd_ne hne] at hdx; exact hdx
    have eH : upd (del (upd (upd (upd H1 a (exo a C none)) dx (exd dx [(f, .int n)])) a (exo a C (some dx))) a) dx (.xd [(f, .int n)]) = upd H1 dx (.xd [(f, .int n)]) := by
      funext b
      by_cases hb : b = dx
      · subst hb; rw [upd_same, upd_same]
      · rw [upd_ne hb, upd_ne hb]
        by_cases ha : b = a
        · subst ha; rw [del_same, na]
        · rw [del_ne ha, upd_ne ha, upd_ne hb, upd_ne ha]
    rw [eH]
    exact ⟨F1, mupd M1 dx (.xd f n), ⟨C, some (f, n)⟩, (r1.newCell hd1 (o := .xd f n) upd_same).rn, ⟨rfl, dx, rfl, mupd_same⟩, q dx (r1.freeM hd1)⟩
end
end FL

/-! errors: their making, what an except suite asks of them -/
namespace FL
open PySem PySem.Spec PyProof.Rows L2
/-- Base.__init__(self, ..), Base an own class over ValueError without __init__ -/
structure UpC (K : PySem.W.Frag) (mg : Str → Option Value) (x : Str) (L : Addr) : Prop where
  g : mg x = some (.ref L)
  rd : PySem.W.readsIn K L (.type "type") = true
  ga : PySem.W.specialIn K (.ref L) "__getattribute__" = some (some (.builtin "type.__getattribute__"))
  fc : PySem.W.findCls K (.ref L) (.type "type") "__init__" = some (.val (.builtin "ValueError.__init__"))
section
variable {X : Cx} {e : Expr} {es : List Expr} {ta : TA} {x : Str} {L : Addr} {p1 p2 pos : Pos}
theorem pe_up {pl : Sem Bool} (c : UpC X.K X.mg x L) (hg : Gl X x) (hdb : (x == ("__debug__" : Str)) = false) (ha : PA X (e :: es) ta)
    (ht : eval (.Call (.Attribute (.Name x p1) "__init__" p2) (e :: es) [] pos) X.env = (do
      let ov ← eval (.Name x p1) X.env
      standAt p2.atName
      let (f, first) ← holding [ov] (getMethod ov "__init__" pl)
      callWith pos f first (backTo pos (starEach (e :: es) X.env)) (backToKw pos (keywordEach [] X.env))))
    (hst : starEach (e :: es) X.env = (false, eval e X.env) :: starEach es X.env) (hpl : (backTo pos (starEach es X.env)).any (·.1) = false) :
    PE X (.Call (.Attribute (.Name x p1) "__init__" p2) (e :: es) [] pos) (tVeI X.K ta) := by
  constructor
  intro pins s σ H Q I hh
  refine PySem.W.methodCall_KW (ld_glob I hg c.g ?_ hdb) ht
  refine PySem.W.method_cls I.kIn c.ga (PySem.W.cls_value I.kIn c.rd c.fc (by decide +kernel) ?_)
  show wpAny _ _ (callWith pos (Value.builtin "ValueError.__init__") [] (backTo pos (starEach (e :: es) X.env)) []) _ _ _
  refine callWith_method1 (thn (ha.run pos pins _ σ H _ (I.tok _) hh) fun us s1 ⟨vs, H1, I1, r1, a, C, ws, ev, hl, T, ea, q⟩ => ?_) hst hpl
  subst ev
  cases r1 with
  | @cons _ u0 _ ur ra rw' =>
    cases (show u0 = Value.ref a from ra)
    have hn : ur.length ≤ sizeLine := by
      have z := Paired.length rw'
      have z2 := sizeLine_eq
      omega
    exact oinit_ok T I1 ea hn fun s' J => ⟨V.non, H1, J, rfl, q⟩
end
theorem log_small {n : Int} (h0 : 0 ≤ n) (h1 : n ≤ 1000) : n.natAbs.log2 < 1920 := by
  by_cases h : n.natAbs = 0
  · rw [h]; decide
  · rw [Nat.log2_lt h]
    have e : n.natAbs < 2 ^ 10 := by have : (2 : Nat) ^ 10 = 1024 := by decide
                                     omega
    exact Nat.lt_of_lt_of_le e (Nat.pow_le_pow_right (by decide) (by decide))
theorem text_small {n : Int} (h0 : 0 ≤ n) (h1 : n ≤ 1000) {t : Str} (ht : t.length ≤ 100) : ((Str.empty ++ t) ++ (toString n : Str)).length ≤ sizeLine := by
  have z : (Str.ofString (toString n)).length ≤ 10 := PyProof.Rows.toString_length_le h0 (by decide) (by omega)
  have e : ((Str.empty ++ t) ++ (toString n : Str)).length = 0 + t.length + (Str.ofString (toString n)).length := by
    rw [Str.length_append, Str.length_append]; rfl
  rw [e, sizeLine_eq]
  omega
/-- __init__ of an error class with one field -/
theorem init_okX {P : Program} {w : World} {K : PySem.W.Frag} {mg : Str → Option Value} {base : Heap} {qual : Str} {st : Stmt} {f : Addr} {fd : FuncData} {C L : Addr} {fld up t : Str} {j : Nat} {p1 p2 p3 p4 p5 p6 p7 p8 p9 p10 p11 p12 p13 : Pos} {pl : Env → Sem Bool}
    (Fn : Fun K "__init__" qual st f fd) (S : FnScope ["self", fld] ["self", fld] (defScope st))
    (eB : defBody st = [.Expr (.Call (.Attribute (.Name up p1) "__init__" p2) [.Name "self" p3, .JoinedStr [.Constant (.str t) j p4, .FormattedValue (.Name fld p5) (-1) none p6] p7] [] p8) p9, .Assign [.Attribute (.Name "self" p10) fld p11] (.Name fld p12) p13])
    (a0 : atB ["self", fld] (defScope st) 0 "self" = true) (a1 : atB ["self", fld] (defScope st) 1 fld = true) (gu : (defScope st).names.lookup up = some .globalImplicit) (hdb : (up == ("__debug__" : Str)) = false) (ht : t.length ≤ 100)
    (hev : ∀ env : Env, eval (.Call (.Attribute (.Name up p1) "__init__" p2) [.Name "self" p3, .JoinedStr [.Constant (.str t) j p4, .FormattedValue (.Name fld p5) (-1) none p6] p7] [] p8) env = (do
      let ov ← eval (.Name up p1) env
      standAt p2.atName
      let (f, first) ← holding [ov] (getMethod ov "__init__" (pl env))
      callWith p8 f first (backTo p8 (starEach [.Name "self" p3, .JoinedStr [.Constant (.str t) j p4, .FormattedValue (.Name fld p5) (-1) none p6] p7] env)) (backToKw p8 (keywordEach [] env))))
    (T : OexC K C) (hno : PySem.W.findIn K (.ref C) fld = some none) (c : UpC K mg up L) : FnOk P w K mg base CX0 1 f fd ["self", fld] (spXI C fld) := by
  refine Fn.ok S (fun vs H Q E ⟨a, n, e, _⟩ => by rw [e]; rfl) fun cdv A outer s H vs Q E hr ⟨a, n, ev, n0, n1, ha, k⟩ => ?_
  subst ev
  rw [eB]
  have A0 : At (cxOf CX0 P w K mg base ["self", fld] qual (defScope st) f cdv A outer s H E).nox 0 "self" := At.of rfl rfl a0
  have A1 : At (cxOf CX0 P w K mg base ["self", fld] qual (defScope st) f cdv A outer s H E).nox 1 fld := At.of rfl rfl a1
  refine ⟨_, pss_cons (ps_expr (pe_up c gu hdb (pa_cons (pe_var A0.n A0.v A0.d A0.c) (pa_cons (pe_joined (.cons pe_str (.cons (pe_fmt (pe_var A1.n A1.v A1.d A1.c)) .nil))) pa_nil rfl) rfl) (hev _) rfl rfl) rfl) (pss_one (ps_ost (pe_var A0.n A0.v A0.d A0.c) (pe_var A1.n A1.v A1.d A1.c) rfl)), ?_⟩
  have g0 : (L2.start ["self", fld] [V.ref a, V.int n])[0]? = some (some (V.ref a)) := rfl
  have g1 : (L2.start ["self", fld] [V.ref a, V.int n])[1]? = some (some (V.int n)) := rfl
  refine ⟨_, g0, t, rfl, ?_, _, g1, .inr ⟨n, rfl, log_small n0 n1, _, rfl, text_small n0 n1 ht, a, C, [_], rfl, Nat.le_of_ble_eq_true rfl, T, ha, ?_⟩⟩
  · have e : (Str.empty ++ t).length = 0 + t.length := by rw [Str.length_append]; rfl
    rw [e, sizeLine_eq]
    omega
  · exact ⟨_, g1, _, g0, a, C, rfl, T, hno, .inl ⟨ha, fun dx hd hne => k dx hd hne⟩⟩
/-! ### count of flat items -/
section
variable {X : Cx}
def rCntF (K : PySem.W.Frag) : V → List V → Hp → VK → Prop := fun x xs H Q => ∃ (a : Addr) (ys : List V) (y : V), x = V.ref a ∧ xs = [y] ∧ SqL K H a ys ∧ flatV y = true ∧ ys.all flatV = true ∧ Q (.int (ys.countP fun z => eqV z y : Nat)) H
theorem count_rel {y : V} : ∀ {ys : List V} {us : List Value}, Vals ys us → ys.all flatV = true → us.countP (eqU y) = ys.countP fun z => eqV z y
  | _, _, .nil, _ => rfl
  | _, _, .cons r rs, h => by
    rw [List.all_cons, Bool.and_eq_true] at h
    rw [List.countP_cons, List.countP_cons, count_rel rs h.2, eqU_of r h.1]
theorem mt_cntF : MtR X "list.count" (rCntF X.K) := by
  intro pins s σ H x xs v us Q I rx rxs hh
  obtain ⟨a, ys, y, rfl, rfl, hs, fy, fys, q⟩ := hh
  cases rx
  obtain ⟨uy, rfl, ry⟩ := rxs.one
  obtain ⟨its, rv, ⟨⟨cls, dd, data, sl⟩, n, ho, hc, hdn, hd⟩, hlen⟩ := I.list hs
  simp only at hc hd
  subst hc hd
  refine call_meets PySem.F.slot_list_count ⟨_, ho, rfl⟩ PySem.F.entry_list_count (PySem.F.args_list_count_2 _ _) (SeqAt.list_countAt a its.toArray n dd sl uy (eqU y)) ⟨ho, fun u' hu' => mem_eqAt ry fy rv fys u' (by simpa using hu'), ?_⟩
  have ec : its.toArray.toList.countP (eqU y) = ys.countP fun z => eqV z y := count_rel rv fys
  rw [ec]
  exact ⟨.int (ys.countP fun z => eqV z y : Nat), H, I.tok _, ⟨s.toks, rfl⟩, q⟩
end
section
variable {B : Bs} {X : Cx} {G : Sl} {M : Mem} {Q : D → Mem → Prop} {d d2 : D} {es : List D}
theorem mx_count (hL : IsL M d es) (hf : d2.flat = true) (ha : es.all D.flat = true) {n : Nat} (hn : (es.countP fun z => eqV z.toV d2.toV) = n) (q : Q (.int (n : Nat)) M) : MX B X "list.count" d [d2] G M Q := fun F σ H Q' v vs r p1 pa kk => by
  obtain ⟨v2, rfl, rp⟩ := rp1 pa
  obtain ⟨a, ys, rfl, hy, ry⟩ := hL.at r p1
  obtain ⟨e1, f1⟩ := rp.flat hf
  obtain ⟨e2, f2⟩ := ry.flat ha
  subst e1; subst e2
  refine WM.of mt_cntF ⟨a, es.map D.toV, d2.toV, rfl, rfl, SqL.of hy, f1, f2, ?_⟩
  rw [List.countP_map]
  subst hn
  exact kk.at r q (.int _)
end
/-! ### an except suite -/
section
variable {B : Bs} {X : Cx} {a C D0 : Addr} {oe : Obj} {cls : Value} {dx : Option Addr} {pn : List (Addr × Obj)} {G : Sl} {M : Mem} {Q : D → Mem → Prop} {e : Expr} {pos : Pos} {f : Str}
/-- the error's dict is known -/
def DxK (M : Mem) : Option Addr → Prop
  | none => True
  | some p => ∃ f n, M p = some (.xd f n)
/-- isinstance(e, c), e the error that is held -/
def rIsX (K : PySem.W.Frag) (D0 a : Addr) (dx : Option Addr) : List V → Hp → VK → Prop := fun xs H Q => ∃ (c : V) (cv : Value) (b : Bool), xs = [.ref a, c] ∧ (∀ u, RelV c u → u = cv) ∧ PySem.W.kitOne K (.ref D0) cv = some b ∧ (∀ p, dx = some p → ∃ fs, H p = some (.xd fs)) ∧ Q (.bl b) H
theorem call_isX (T : ExcC X.K D0) (hz : Zc (.ref D0) dx oe) (hf : ∃ vs, oe.data = .fields vs) : CallR (X.suite a ((a, oe) :: pn)) (.builtin "isinstance") (rIsX X.K D0 a dx) := by
  intro pins s σ H xs us Q I r hh
  obtain ⟨c, cv, b, rfl, hcv, ek, hdx, q⟩ := hh
  obtain ⟨u1, u2, rfl, r1, r2⟩ := vals2 r
  cases (show u1 = Value.ref a from r1)
  have ec := hcv _ r2
  subst ec
  obtain ⟨hget, _⟩ := I.pin (a, oe) (List.mem_append.mpr (.inl List.mem_cons_self))
  obtain ⟨vs, hv⟩ := hf
  have J : ∃ od, PySem.W.InstAt s.heap a oe D0 od := by
    have nc : PySem.W.notCls oe = true := by unfold PySem.W.notCls; rw [hv]
    cases dx with
    | none => exact ⟨none, hget, hz.1, nc, by rw [hz.2]; trivial⟩
    | some p =>
      obtain ⟨fs, hp⟩ := hdx p rfl
      obtain ⟨o, ho⟩ := objOk_get (I.hok p _ hp)
      exact ⟨some o, hget, hz.1, nc, by rw [hz.2]; exact ho⟩
  obtain ⟨od, J⟩ := J
  have hcl : (PySem.W.clsIn X.K D0).isSome = true := by
    obtain ⟨cd, hc, _⟩ := PySem.W.any_some T.hd
    rw [hc]; rfl
  exact PySem.W.kia_one (PySem.W.kitx_exc hcl T.hg T.hk T.hs T.ha T.hn T.ht T.hm) I.kIn J ek (fun z => nomatch z) fun tk => ⟨.bl b, H, I.kept (t' := tk) fun _ _ z => z, rfl, q⟩
theorem DxK.at {F H : Hp} {σ : L2.St} {K : PySem.W.Frag} (r : R B K F σ H G M) (h : DxK M dx) : ∀ p, dx = some p → ∃ fs, H p = some (.xd fs) := fun p e => by
  subst e
  obtain ⟨f, n, hm⟩ := h
  exact ⟨_, (r.mem p _ hm).2⟩
theorem bx_isX {b : Bool} (T : ExcC X.K D0) (hz : Zc (.ref D0) dx oe) (hf : ∃ vs, oe.data = .fields vs) (hd : DxK M dx) (hk : PySem.W.kitOne X.K (.ref D0) (.ref C) = some b) (q : Q (.bl b) M) : BX B (X.suite a ((a, oe) :: pn)) (.builtin "isinstance") [.ref a, .ref C] G M Q := fun F σ H Q' vs r pa kk => by
  obtain ⟨v, v2, rfl, p1, p2⟩ := rp2 pa
  cases p1; cases p2
  exact WC.of (call_isX T hz hf) ⟨.ref C, .ref C, b, rfl, fun u h => h, hk, hd.at r, kk.at r q (.bl b)⟩
theorem bx_isXT {b : Bool} {t : String} (T : ExcC X.K D0) (hz : Zc (.ref D0) dx oe) (hf : ∃ vs, oe.data = .fields vs) (hd : DxK M dx) (hk : PySem.W.kitOne X.K (.ref D0) (.type t) = some b) (q : Q (.bl b) M) : BX B (X.suite a ((a, oe) :: pn)) (.builtin "isinstance") [.ref a, .ty t] G M Q := fun F σ H Q' vs r pa kk => by
  obtain ⟨v, v2, rfl, p1, p2⟩ := rp2 pa
  cases p1; cases p2
  exact WC.of (call_isX T hz hf) ⟨.ty t, .type t, b, rfl, fun u h => h, hk, hd.at r, kk.at r q (.bl b)⟩
theorem ex_xfD {n : Int} {p : Addr} (T : XfC X.K C) (hno : PySem.W.findIn X.K (.ref C) f = some none) (hz : Zc (.ref C) (some p) oe) (hf : ∃ vs, oe.data = .fields vs) (hb : attributeBase e f X.env (eval e X.env) = eval e X.env)
    (h : EX B (X.suite a ((a, oe) :: pn)) e G M fun d M1 => d = .ref a ∧ M1 p = some (.xd f n) ∧ Q (.int n) M1) : EX B (X.suite a ((a, oe) :: pn)) (.Attribute e f pos) G M Q := fun F σ H Q' r kk =>
  FL.WE.of (pe_xf T hno hz hf pe_we hb) (h F σ H _ r fun v H1 F1 d1 M1 ⟨e1, hm, q⟩ s1 r1 p1 => by
    subst e1; cases p1
    refine ⟨rfl, rfl, p, _, .int n, rfl, (r1.mem p _ hm).2, ?_, (kk.mono s1).at r1 q (.int n)⟩
    rw [lookup_put, if_pos rfl])
end
/-! ### try: body / except x as n: suite, where the body raises -/
section
variable {B : Bs} {X : Cx} {x n : Str} {c : Value} {i : Nat} {body suite : List Stmt} {b₀ : Stmt} {np pos pos' : Pos} {G : Sl} {M : Mem} {E : En}
theorem takes_len {W W' : WX} (t : Takes X W) (h : ∀ c d σ H, σ.length = X.N.length → W' c d σ H → W c d σ H) : Takes X W' := fun u s' ⟨a, B, sI, pins, σ, H, cls, d, e, I, nb, up, sky, na, os, ag, w⟩ =>
  t u s' ⟨a, B, sI, pins, σ, H, cls, d, e, I, nb, up, sky, na, os, ag, h _ _ _ _ I.len w⟩
theorem slots_one {K : PySem.W.Frag} {F : Hp} {σ : L2.St} {m : Nat} {a : Addr} (h : σ.length = m) : SlotsOk K F (σ.set i (some (.ref a))) ((List.replicate m none).set i (some (.ref a))) := by
  refine SlotsOk.set (d := .ref a) ⟨by simp [h], fun j d q => ?_⟩ (.ref a)
  rw [List.getElem?_replicate] at q
  split at q <;> cases q
theorem sx_tryX (Ex : XQ) (hs : X.stack = X.env :: X.outer) (hf : X.env.frame = some X.env.locals) (hN : X.N.Nodup) (hi : X.N[i]? = some n) (hln : X.env.kindOf n = some .local) (hc : Names X x c)
    (hcls : ∀ y M', Ex y M' → PySem.W.exmOne X.K (.ref y.C) c = some true)
    (hb : ∀ (B' : Bs) (pn : List (Addr × Obj)) (xe : Value → Shared → Prop), Same B.F B'.F → TakesD B' (X.tr pn xe) Ex → SXs B' (X.tr pn xe) body En.no G M)
    (hsu : ∀ (a : Addr) (oe : Obj) (cls : Value) (d : Option Addr) (pn : List (Addr × Obj)) (y : XD) (M' : Mem), Zc cls d oe → (∃ vs, oe.data = .fields vs) → XRp M' cls d y → Ex y M' →
      SXs B (X.suite a ((a, oe) :: pn)) (b₀ :: suite) ⟨fun G1 M1 => E.nx (G1.set i none) M1, E.rt, fun G1 M1 => E.bk (G1.set i none) M1, fun G1 M1 => E.ct (G1.set i none) M1⟩ ((List.replicate X.N.length none).set i (some (.ref a))) M') :
    SX B X (.Try body [.ExceptHandler (some (.Name x np)) (some n) (b₀ :: suite) pos'] [] [] pos) E G M := fun F σ H D' r kk => by
  refine FL.WS.of (ps_try_as (Wout := fun _ _ _ _ => False) (tb := fun W D σ H => ∀ (pn : List (Addr × Obj)) (xe : Value → Shared → Prop), Takes (X.tr pn xe) W → WSs (X.tr pn xe) body D σ H)
    (ts := fun a cls d D σ H => ∀ (oe : Obj) (pn : List (Addr × Obj)), Zc cls d oe → (∃ vs, oe.data = .fields vs) → WSs (X.suite a ((a, oe) :: pn)) (b₀ :: suite) D σ H)
    hs hf hN hi hln hc LamX.takes0 (fun W pn xe tk _ => ⟨fun pins s σ H D I h => h pn xe tk pins s I⟩) (fun a oe cls d pn hz hfl => ⟨fun pins s σ H D I h => h oe pn hz hfl pins s I⟩)) ?_
  intro pn xe tk
  refine hb ⟨F, M, H⟩ pn xe r.bf (takes_len tk fun cls d σ1 H1 hl ⟨F1, M1, y, rn, xr, ex⟩ => ⟨true, ?_, fun _ a na oe pn1 hz hfl => ?_, fun z => nomatch z⟩) F σ H D' ⟨r.slots, r.ex, r.mem, Same.refl F, Kp.refl M H⟩ ⟨fun _ _ _ _ _ z => z.elim, fun _ _ _ _ _ z => z.elim, fun _ _ _ _ _ z => z.elim, fun _ _ _ _ _ z => z.elim⟩
  · rw [xr.1]; exact hcls y M1 ex
  · refine hsu a oe cls d pn1 y M1 hz hfl xr ex F1 _ H1 _ ⟨slots_one hl, rn.ex, rn.mem, r.bf.trans rn.bf, r.bk.trans rn.bk⟩ ?_
    have k2 := kk.mono (F1 := F1) rn.bf
    refine ⟨fun σ2 H2 F2 G2 M2 q s2 r2 => k2.nx _ H2 F2 _ M2 q s2 ⟨r2.slots.setNone, r2.ex, r2.mem, r2.bf, r2.bk⟩, k2.rt, fun σ2 H2 F2 G2 M2 q s2 r2 => k2.bk _ H2 F2 _ M2 q s2 ⟨r2.slots.setNone, r2.ex, r2.mem, r2.bf, r2.bk⟩, fun σ2 H2 F2 G2 M2 q s2 r2 => k2.ct _ H2 F2 _ M2 q s2 ⟨r2.slots.setNone, r2.ex, r2.mem, r2.bf, r2.bk⟩⟩
end
/-! ### tuple(range(..)) -/
section
variable {B : Bs} {X : Cx} {G : Sl} {M : Mem} {Q : D → Mem → Prop} {a : Expr} {p p2 pos pos2 : Pos}
theorem ex_tupRg (hc : X.calm = true) (hl : Gl X "tuple") (hlm : X.mg "tuple" = none) (hg : Gl X "range") (hm : X.mg "range" = none) (n1 : starEach [a] X.env = (false, eval a X.env) :: starEach [] X.env)
    (n2 : starEach [Expr.Call (.Name "range" p2) [a] [] pos2] X.env = (false, eval (Expr.Call (.Name "range" p2) [a] [] pos2) X.env) :: starEach [] X.env)
    (h : EX B X a G M fun d M1 => ∃ n : Int, d = .int n ∧ 0 ≤ n ∧ n ≤ 16777216 ∧ Q (.tup (rangeD 0 n.toNat)) M1) : EX B X (.Call (.Name "tuple" p) [.Call (.Name "range" p2) [a] [] pos2] [] pos) G M Q := fun F σ H Q' r k =>
  FL.WE.of (pe_tupRg hc hl hlm (prg_1 hg hm pe_we n1) n2) (h F σ H _ r fun v H1 F1 d1 M1 ⟨n, e1, h0, h1, q⟩ s1 r1 p1 => by
    subst e1; cases p1
    exact ⟨n, rfl, RgOk.of_le (Int.le_refl 0) h1 (by decide) h0, fun l hl => (k.mono s1).new r1 hl q (.tup sq_upd rps_rg)⟩)
end
end FL

set_option maxHeartbeats 2000000
/-! a lambda handed to a def that calls it -/
namespace FL
open PySem PySem.Spec PyProof.Rows L2
section
variable {X : Cx} {pins : List (Addr × Obj)} {σ : L2.St} {H : Hp} {s : Shared}
/-- as the library's making of a lambda, of one table: all but that table is kept -/
theorem lam_mk {q : Str} {c P : Addr} {params : Arguments} {body : Expr} {scope : Scope} {pos : Pos} {E : Value → Shared → Prop} {Q : Value → Shared → Prop} (I : Inv X pins σ H s) (TB : LamX.TabB X.base X.mg c P) (hcode : X.env.code = .ref c)
    (hq : q = X.env.qual ++ "<lambda>") (hT : LamX.TabS H P q) (hdef : defaultsOf params X.env = ([], [])) (hfree : ∀ y ∈ scope.names, y.2 = .free → ∃ c, X.env.cells.lookup y.1 = some c)
    (h : ∀ (f c' : Addr) (pm ctv : Value) (H1 : Hp) (s' : Shared), Inv X pins σ H1 s' → (∀ b o, b ≠ P → H b = some o → H1 b = some o) → LamX.TabS H1 P q →
      s'.heap.get? f = some (PySem.W.kla_obj "<lambda>" (X.env.qual ++ "<lambda>") params body scope (cloFrom X.env.cells scope.names []) pm c' ctv) → H1 f = none → f ∉ frs X.stack → H1 c' = some (LamX.CodeO c' q) → Q (.ref f) s') :
    wpAny (model X.prog X.w) X.A (eval (.Lambda params body scope pos) X.env) Q E s := by
  subst hq
  have hP' : s.heap.get? P = some { cls := .none, data := .fields hT.choose } := I.hok P _ hT.choose_spec.1
  obtain ⟨hP, ht, ha⟩ := hT.choose_spec
  generalize hT.choose = ps at hP ht ha hP'
  refine PySem.W.kla_eval hdef ?_
  have bP := TB.bm.keeps I.bk
  have far : ∀ f, s.heap.objs.size ≤ f → f ∉ frs X.stack := by
    intro f hf z
    rcases List.mem_cons.mp (I.stkSub _ z) with e | e
    · have h1 := I.lt
      rw [← e] at h1
      exact absurd h1 (Nat.not_lt.mpr hf)
    · exact I.nofs hf e
  cases hc : codeAmong pos ps.toList with
  | some cv =>
    obtain ⟨c', e, hco⟩ := ha pos cv hc
    subst e
    refine PySem.W.kla_makeFunctionHit (mg := X.mg) (c := c) (P := P) (ps := ps) (closure_ok hfree) I.ok.glob (I.mod.glob.keeps I.bk) hcode (TB.code.keeps I.bk) hP' ht hc bP ?_
    intro ctv h' tk hx hsz
    exact h h'.objs.size c' ((X.mg "__name__").getD .none) ctv H _ (I.kept fun b o e => Heap.get?_push_of_some _ (hx b o e)) (fun _ _ _ e => e) ⟨ps, hP, ht, ha⟩ (Heap.get?_push_size _ rfl) (I.hok.fresh hsz) (far _ hsz) hco
  | none =>
    refine PySem.W.kla_makeFunction (mg := X.mg) (c := c) (P := P) (ps := ps) (closure_ok hfree) I.ok.glob (I.mod.glob.keeps I.bk) hcode (TB.code.keeps I.bk) hP' ht hc TB.gP bP ?_
    intro c' ctv h' tk hx hge hlt hrec htb
    obtain ⟨c2, oc, vs, t, e2, hoc, hd, hv⟩ := hrec
    cases e2
    have nC : H c' = none := I.hok.fresh hge
    have hsz : s.heap.objs.size ≤ h'.objs.size := by omega
    have I1 := LamX.inv_table (t' := tk) (more := #[rawInt pos.line, rawInt pos.col, .ref c']) (h' := h'.push (PySem.W.kla_obj "<lambda>" (X.env.qual ++ "<lambda>") params body scope (cloFrom X.env.cells scope.names []) ((X.mg "__name__").getD .none) c' ctv)) I hP
      (fun b o hb e => Heap.get?_push_of_some _ (hx b o hb e)) (Heap.get?_push_of_some _ htb) hge ⟨oc, vs, t, Heap.get?_push_of_some _ hoc, hd, hv⟩
    have hPc : P ≠ c' := ne_of_none hP nC
    have hE : ∀ b o, b ≠ P → H b = some o → upd (upd H P (.tbl (ps ++ #[rawInt pos.line, rawInt pos.col, .ref c']))) c' (LamX.CodeO c' (X.env.qual ++ "<lambda>")) b = some o := by
      intro b o hb e
      rw [upd_ne (ne_of_none e nC), upd_ne hb]
      exact e
    have eL : (ps ++ #[rawInt pos.line, rawInt pos.col, .ref c']).toList = ps.toList ++ [rawInt pos.line, rawInt pos.col, .ref c'] := by simp
    refine h h'.objs.size c' ((X.mg "__name__").getD .none) ctv _ _ I1 hE ⟨_, by rw [upd_ne hPc, upd_same], by rw [eL]; exact PySem.TriplesOk_snoc _ _ _ _ ht, ?_⟩ (Heap.get?_push_size _ rfl) ?_ (far _ hsz) upd_same
    · intro p' cv hcv
      rw [eL] at hcv
      rcases LamX.among_app _ ht hcv with z | z
      · obtain ⟨c0, e1, e2⟩ := ha p' cv z
        refine ⟨c0, e1, hE _ _ (fun w => ?_) e2⟩
        rw [w, hP] at e2
        exact LamX.codeO_ne ps (Option.some.inj e2).symm
      · exact ⟨c', z, upd_same⟩
    · rw [upd_ne (Nat.ne_of_gt hlt), upd_ne (Nat.ne_of_gt (Nat.lt_of_lt_of_le (Heap.lt_size hP') hsz))]
      exact I.hok.fresh hsz
end
/-- the table's cell: what of the heap stays may grow by its code objects -/
theorem R.lam {B : Bs} {K : PySem.W.Frag} {F H H1 : Hp} {σ : L2.St} {G : Sl} {M : Mem} {P : Addr} {q : Str} (r : R B K F σ H G M) (hm : M P = some (.tbl q)) (hk : ∀ b o, b ≠ P → H b = some o → H1 b = some o) (hT : LamX.TabS H1 P q) :
    ∃ F1, Same F F1 ∧ R B K F1 σ H1 G M ∧ ∀ c, H1 c = some (LamX.CodeO c q) → F1 c = some (LamX.CodeO c q) := by
  classical
  have fP := (r.mem P _ hm).1
  have kF : ∀ b u, F b = some u → H1 b = some u := fun b u e => hk b u (fun z => by rw [z, fP] at e; cases e) (r.ex b u e)
  have noC : ∀ c, H1 c = some (LamX.CodeO c q) → M c = none := fun c hc => by
    cases e : M c with
    | none => rfl
    | some o =>
      exfalso
      have hne : c ≠ P := fun z => by
        obtain ⟨ps, h1, _⟩ := hT
        rw [z, h1] at hc
        exact LamX.codeO_ne ps (Option.some.inj hc).symm
      have hh := (r.mem c o e).2
      unfold LamX.CodeO at hc
      cases o with
      | lst ds => obtain ⟨xs, h1, _⟩ := hh; rw [hk _ _ hne h1] at hc; cases hc
      | ins C fs => obtain ⟨dx, xs, h1, _⟩ := hh; rw [hk _ _ hne h1] at hc; cases hc
      | dK fs => obtain ⟨xs, h1, _⟩ := hh; rw [hk _ _ hne h1] at hc; cases hc
      | dT fs => obtain ⟨xs, h1, _⟩ := hh; rw [hk _ _ hne h1] at hc; cases hc
      | tbl q' => obtain ⟨xs, h1, _⟩ := hh; rw [hk _ _ hne h1] at hc; cases hc
      | xd f n => rw [hk _ _ hne (show H c = _ from hh)] at hc; cases hc
  let F1 : Hp := fun b => if H1 b = some (LamX.CodeO b q) then H1 b else F b
  have s1 : Same F F1 := fun b u e => by
    show (if H1 b = some (LamX.CodeO b q) then H1 b else F b) = some u
    split
    · exact kF b u e
    · exact e
  have fc : ∀ c, H1 c = some (LamX.CodeO c q) → F1 c = some (LamX.CodeO c q) := fun c hc => by
    show (if H1 c = some (LamX.CodeO c q) then H1 c else F c) = _
    rw [if_pos hc]; exact hc
  refine ⟨F1, s1, ⟨r.slots.mono s1, fun b u e => ?_, fun a o e => ?_, r.bf.trans s1, r.bk.trans fun a u e m => ⟨hk a u (fun z => by rw [z, hm] at m; cases m) e, m⟩⟩, fc⟩
  · have e' : (if H1 b = some (LamX.CodeO b q) then H1 b else F b) = some u := e
    split at e'
    · exact e'
    · exact kF b u e'
  · constructor
    · show (if H1 a = some (LamX.CodeO a q) then H1 a else F a) = none
      rw [if_neg (fun z => by rw [noC a z] at e; cases e)]
      exact (r.mem a o e).1
    · by_cases ha : a = P
      · subst ha
        rw [hm] at e; cases e
        obtain ⟨ps, h1, h2, h3⟩ := hT
        refine ⟨ps, h1, h2, fun pos cv hc => ?_⟩
        obtain ⟨c, e1, e2⟩ := h3 pos cv hc
        exact ⟨c, e1, fc c e2⟩
      · exact ((r.mem a o e).2.mono s1).heap fun u hu => hk a u ha hu
/-- a def that calls what it is handed, which raises, and tells it by Wd -/
structure WordF (P : Program) (w : World) (K : PySem.W.Frag) (mg : Str → Option Value) (base : Heap) (x : Str) (Wd : XD → D → Prop) : Prop where
  ex : ∃ (g : Addr) (a : Str) (Ng : List Str) (pg : Arguments) (bg : List Stmt) (sg : Scope) (dV kV doc pm cdv ct oc : Value) (an od : Option Addr) (osl : Array (Option Value)), mg x = some (.ref g) ∧ PySem.W.keepIn K (.ref g) = true ∧
    K.lookup g = some ⟨oc, od, .func (PySem.W.fnOf x x pg bg sg dV kV doc pm an cdv ct), osl⟩ ∧ PySem.W.codeIn K cdv x = true ∧ L2.Binds K (PySem.W.fnOf x x pg bg sg dV kV doc pm an cdv ct) [a] [] ∧ FnScope Ng [a] sg ∧ Ng[0]? = some a ∧ Vis sg a ∧
    (a == ("__debug__" : Str)) = false ∧ (a == ("__classdict__" : Str)) = false ∧
    ∀ (A : Around) (outer : List Env) (s : Shared) (H : Hp) (B : Bs), Room 1 (A.deeper (envOfC x sg s.heap.objs.size g cdv)) → ∀ (f : Addr) (M : Mem) (Ex : XQ) (Q : D → Mem → Prop),
      (∀ y M', Ex y M' → ∃ d, Wd y d ∧ Q d M') →
      (∀ (B' : Bs) (pn : List (Addr × Obj)) (xe : Value → Shared → Prop) (G : Sl) (Q' : D → Mem → Prop) (p1 p2 : Pos), Same B.F B'.F → TakesD B' ((cxOf CX0 P w K mg base Ng x sg g cdv A outer s H E0).tr pn xe) Ex → G[0]? = some (some (.ref f)) →
        EX B' ((cxOf CX0 P w K mg base Ng x sg g cdv A outer s H E0).tr pn xe) (.Call (.Name a p1) [] [] p2) G M Q') →
      SXs B (cxOf CX0 P w K mg base Ng x sg g cdv A outer s H E0).nox bg (En.df Q) (startD Ng [.ref f]) M
section
variable {B : Bs} {X : Cx} {G : Sl} {M : Mem} {Q : D → Mem → Prop} {x : Str} {c P : Addr} {k : Nat} {params : Arguments} {body : Expr} {scope : Scope} {p lpos pos : Pos} {Wd : XD → D → Prop}
theorem ex_lam (Ex : XQ) (wd : WordF X.prog X.w X.K X.mg X.base x Wd) (hg : Gl X x) (hdb : (x == ("__debug__" : Str)) = false) (hP : M P = some (.tbl (X.env.qual ++ "<lambda>"))) (TB : LamX.TabB X.base X.mg c P) (hcode : X.env.code = .ref c) (hr : Room (k + 2) X.A)
    (L : LamX.LamS X.env.scope scope) (hdef : defaultsOf params X.env = ([], []))
    (hbind : ∀ (q : Str) (cl : List (Str × Addr)) (pm cv ctv : Value), bindArgs (PySem.W.kla_fn "<lambda>" q params body scope cl pm cv ctv) ⟨[], []⟩ = pure [])
    (hbody : ∀ (A : Around) (outer : List Env) (s : Shared) (H : Hp) (E : XK) (f c' : Addr) (B' : Bs), Room k (A.deeper (LamX.lamEnv X scope s.heap.objs.size f c')) → TakesD B' (LamX.lamCx X A outer s H E scope f c') Ex → EX B' (LamX.lamCx X A outer s H E scope f c') body G M (fun _ _ => False))
    (hQ : ∀ y M', Ex y M' → (∀ a o, M a = some o → M' a = some o) ∧ ∃ d, Wd y d ∧ Q d M) : EX B X (.Call (.Name x p) [.Lambda params body scope lpos] [] pos) G M Q := fun F σ H Q' r kk => by
  obtain ⟨g, a, Ng, pg, bg, sg, dV, kV, doc, pm, cdv, ct, oc, an, od, osl, hm, hkp, lk, hcg, hb, Sg, hNg, hva, hd, hcd, hw⟩ := wd.ex
  intro pins s I
  refine wpAny_Call_Name_kw (ld_glob I hg hm ?_ hdb)
  refine PySem.W.callWith_K (h₀ := X.base) I.ok.mod.kin hkp ?_ (by rfl) (by rfl)
  show wpAny _ _ (spliced ((false, eval (.Lambda params body scope lpos) X.env) :: backTo pos (starEach [] X.env))) _ _ s
  have hT : LamX.TabS H P (X.env.qual ++ "<lambda>") := by
    obtain ⟨_, ps, h1, h2, h3⟩ := r.mem P _ hP
    refine ⟨ps, h1, h2, fun pos cv hc => ?_⟩
    obtain ⟨c, e1, e2⟩ := h3 pos cv hc
    exact ⟨c, e1, r.ex _ _ e2⟩
  refine Calls.spliced_cons (lam_mk I TB hcode rfl hT hdef (L.has I.ok) fun f c' pm' ctv H1 s' I1 eN T1 hf hfn hfr hco => ?_)
  refine Calls.spliced_nil ⟨I1.kIn, ?_⟩
  obtain ⟨F1, sF, r1, fc⟩ := r.lam hP eN T1
  have rc : codeAny (model X.prog X.w) X.A (.call (.ref g) ⟨[.ref f], []⟩) (CR CX0 X.stack X.prog X.w H1 s' Q' E0) s' := by
    refine LamX.run_ofS (N := Ng) (ps := [a]) (us := [.ref f]) (vs := [.ref f]) lk hcg Sg hr I1.env0 (hb s' [.ref f] I1.kIn rfl) (.cons rfl .nil) rfl fun hr' => ?_
    refine ⟨_, (pss_wss (X := (cxOf CX0 X.prog X.w X.K X.mg X.base Ng x sg g cdv X.A X.stack s' H1 E0).nox) (st := bg)).nox, ?_⟩
    refine hw X.A X.stack s' H1 ⟨F1, M, H1⟩ (Room.mono hr' (by omega)) f M Ex (fun d M2 => (∀ a o, M a = some o → M2 a = some o) ∧ Q d M) (fun y M' hy => ?_) (fun B' pn xe G' Q2 p1 p2 sB tk hG => ?_) F1 _ H1 _ ⟨start_ok (.cons (.ref f) .nil), r1.ex, r1.mem, Same.refl F1, Kp.refl M H1⟩ ⟨?_, ?_, ?_, ?_⟩
    · obtain ⟨h1, d, h2, h3⟩ := hQ y M' hy
      exact ⟨d, h2, h1, h3⟩
    · intro FZ σZ HZ QZ rZ kZ
      have hact := LamX.pe_act (i := 0) (k := k) (E := XKd B' X.K Ex) (W := fun cls d _ H => XKd B' X.K Ex cls d H) (tb := fun σ2 H2 Q3 => ∀ (A : Around) (outer : List Env) (s : Shared) (H : Hp), Room k (A.deeper (LamX.lamEnv X scope s.heap.objs.size f c')) → FL.WE (LamX.lamCx X A outer s H (XKd B' X.K Ex) scope f c') body σ2 H2 Q3)
        (p1 := p1) (p2 := p2) I1 L hf hfn hfr (hbind _ _ _ _ _) tk (fun _ _ _ _ h => h) hr' (fun A outer s H hr2 => ⟨fun pins s3 σ3 H3 Q3 I3 h3 => h3 A outer s H hr2 pins s3 I3⟩) hNg hva hd hcd
      refine FL.WE.of hact ⟨?_, ?_, fun A outer s3 H3 hr3 => ?_⟩
      · obtain ⟨v, hv, rv⟩ := rZ.slots.2 0 _ hG
        cases rv
        exact hv
      · exact rZ.ex _ _ (rZ.bf _ _ (sB _ _ (fc c' hco)))
      · refine hbody A outer s3 H3 (XKd B' X.K Ex) f c' B' hr3 (takes_of rfl rfl rfl rfl) FZ σ HZ QZ ⟨r.slots.mono (sF.trans (sB.trans rZ.bf)), rZ.ex, rZ.mem, rZ.bf, rZ.bk⟩ fun _ _ _ _ _ z => z.elim
    · exact fun σ2 H2 F2 G2 M2 ⟨hx, q⟩ s2 r2 => kk .non H2 F2 .non M q (sF.trans s2) ⟨r1.slots.mono s2, r2.ex, fun a o e => r2.mem a o (hx a o e), r1.bf.trans s2, r1.bk.trans (r2.bk.trans (Kp.less hx))⟩ .non
    · exact fun v H2 F2 d M2 ⟨hx, q⟩ s2 ⟨_, _, r2⟩ rp => kk v H2 F2 d M q (sF.trans s2) ⟨r1.slots.mono s2, r2.ex, fun a o e => r2.mem a o (hx a o e), r1.bf.trans s2, r1.bk.trans (r2.bk.trans (Kp.less hx))⟩ rp
    · exact fun _ _ _ _ _ z => z.elim
    · exact fun _ _ _ _ _ z => z.elim
  refine wpAny_call (codeAny_mono rc fun r s2 hq => ?_)
  cases r with
  | error e => exact (show False from hq).elim
  | ok fl =>
    cases fl with
    | ret u => exact I1.after hq
    | next => exact False.elim hq
    | brk => exact False.elim hq
    | cont => exact False.elim hq
end
/-! ### a def whose code object is known -/
def CodeAt (K : PySem.W.Frag) (f : Addr) (cdv : Value) : Prop := ∃ (oc : Value) (od : Option Addr) (fd : FuncData) (osl : Array (Option Value)), K.lookup f = some ⟨oc, od, .func fd, osl⟩ ∧ fd.code = cdv
theorem CodeAt.one {K : PySem.W.Frag} {f : Addr} {u v : Value} (h : CodeAt K f u) (g : CodeAt K f v) : u = v := by
  obtain ⟨_, _, fd, _, e1, e2⟩ := h
  obtain ⟨_, _, fd', _, e3, e4⟩ := g
  rw [e1] at e3
  injection e3 with e3
  injection e3 with _ _ e3 _
  injection e3 with e3
  rw [← e2, ← e4, e3]
theorem fun_okC {P : Program} {w : World} {K : PySem.W.Frag} {mg : Str → Option Value} {base : Heap} {x qual : Str} {st : Stmt} {f : Addr} {fd : FuncData} {N ps : List Str} {k : Nat} {sp : DSp} (Fn : Fun K x qual st f fd) (S : FnScope N ps (defScope st))
    (len : ∀ ds M Q, sp ds M Q → ds.length = ps.length)
    (body : ∀ (cdv : Value) (A : Around) (outer : List Env) (s : Shared) (H : Hp) (E : XK), CodeAt K f cdv → Room k (A.deeper (envOfC qual (defScope st) s.heap.objs.size f cdv)) → ∀ ds M Q, sp ds M Q → ∀ B : Bs,
      SXs B (cxOf CX0 P w K mg base N qual (defScope st) f cdv A outer s H E).nox (defBody st) (En.df Q) (startD N ds) M) : FnOk P w K mg base CX0 (k + 1) f fd ps (lift K sp) := by
  obtain ⟨oc, od, kV, doc, pm, an, cdv, ct, osl, rfl, lk, hcd⟩ := Fn.ex
  refine fn_of lk hcd S (fun vs H Q E ⟨F, ds, M, Qd, p, _, _, h, _⟩ => by rw [p.length]; exact len ds M Qd h) fun A outer s H vs Q E hr ⟨F, ds, M, Qd, p, ex, me, h, kk⟩ => ?_
  refine ⟨_, (pss_wss (X := (cxOf CX0 P w K mg base N qual (defScope st) f cdv A outer s H E).nox)).nox, body cdv A outer s H E ⟨_, _, _, _, lk, rfl⟩ hr ds M Qd h ⟨F, M, H⟩ F _ H _ ⟨start_ok p, ex, me, Same.refl F, Kp.refl M H⟩ ⟨?_, ?_, ?_, ?_⟩⟩
  · exact fun σ' H' F' G' M' q s' r' => kk .non M' q .non H' F' s' r'.bk r'.ex r'.mem .non
  · exact fun v H' F' d M' q s' ⟨_, _, r'⟩ rp => kk d M' q v H' F' s' r'.bk r'.ex r'.mem rp
  · exact fun _ _ _ _ _ q => False.elim q
  · exact fun _ _ _ _ _ q => False.elim q
/-- the law, its table empty at first: at every script it tells True -/
def spTrueL (T : Addr) (q : Str) : DSp := fun ds M Q => ∃ ns : List Int, ds = [.fzl (ns.map D.int)] ∧ ns.length ≤ 63 ∧ M = mupd noM T (.tbl q) ∧ ∀ M', Q (.bl true) M'
theorem law_spL {K : PySem.W.Frag} {H : Hp} {a T : Addr} {q : Str} {ns : List Int} {E : XK} (hl : ns.length ≤ 63) (hT : H T = some (.tbl #[])) (hS : SqL K H a (ns.map V.int)) : lift K (spTrueL T q) [.ref a] H (fun v _ => v = .bl true) E := by
  have hS' : SqL K (L2.del H T) a (ns.map V.int) := by
    rcases hS with (h | ⟨o, h⟩) | h
    · refine .inl (.inl ?_)
      rw [L2.del_ne (fun z => by rw [z, hT] at h; cases h)]; exact h
    · refine .inl (.inr ⟨o, ?_⟩)
      rw [L2.del_ne (fun z => by rw [z, hT] at h; cases h)]; exact h
    · exact .inr h
  refine ⟨L2.del H T, [.fzl (ns.map D.int)], mupd noM T (.tbl q), fun d _ => d = .bl true, .cons (.fzl hS' RpAll.ints) .nil, fun b u e => ?_, fun b o e => ?_, ⟨ns, rfl, hl, rfl, fun _ => rfl⟩, fun d M' e v H' F' _ _ _ _ rp => by subst e; cases rp; rfl⟩
  · by_cases hb : b = T
    · rw [hb, L2.del_same] at e; cases e
    · rw [L2.del_ne hb] at e; exact e
  · by_cases hb : b = T
    · subst hb
      rw [mupd_same] at e; cases e
      refine ⟨L2.del_same, #[], hT, True.intro, fun pos cv hc => ?_⟩
      have z : codeAmong pos [] = some cv := hc
      simp [codeAmong] at z
    · rw [mupd_ne hb] at e; cases e
/-- a list cell against a list -/
theorem ox_neC {B : Bs} {X : Cx} {G : Sl} {M : Mem} {Q : D → Mem → Prop} {d2 : D} {l : Addr} {ds : List D} (hu : X.A.units + 64 < cLine) (hm : M l = some (.lst ds)) (h1 : (D.lst ds).okEq = true) (h2 : d2.okEq = true) (q : Q (.bl (!eqD (.lst ds) d2)) M) : OX B X (compareOp .NotEq) (.ref l) d2 G M Q := fun F σ H Q' v w r p1 p2 kk => by
  obtain ⟨a1, a2⟩ := Bool.and_eq_true_iff.mp h1
  obtain ⟨b1, b2⟩ := Bool.and_eq_true_iff.mp h2
  cases p1
  obtain ⟨_, xs, hx, rx⟩ := r.mem l _ hm
  have z : Dp X.K H (.ref l) (D.lst ds).py := by
    unfold D.isPy at a1
    unfold D.py
    exact .lst (SqL.of hx) (rx.dp r.ex a1)
  exact FL.WO.of (op_neD hu) ⟨_, _, z, p2.dp r.ex b1, a2, b2, kk.at r q (.bl _)⟩
end FL

/-! what the head looks at for error classes -/
namespace FL
open PySem PySem.Spec PyProof.Rows L2
def oexB (K : PySem.W.Frag) (C : Addr) : Bool := (match K.lookup C with
  | some ⟨.type "type", _, .cls cd, sl⟩ => (match cd.mro, sl.toList with
    | .ref C' :: bm, [_, _, _, _, some (.builtin n), _] => C' == C && n == "ValueError.__new__" && !cd.hasDel && cd.hasDict && PySem.HandSPX.refsVE bm
    | _, _ => false)
  | _ => false) && (decide (PySem.W.findIn K (.ref C) "__setattr__" = some (some (.builtin "object.__setattr__"))) && (decide (PySem.W.subIn K (.ref C) (.type "BaseException") = some true) && (decide (PySem.W.typeIn K (.ref C) = some (.type "type")) && PySem.W.keepIn K (.ref C))))
theorem oexB_ok {K : PySem.W.Frag} {C : Addr} (h : oexB K C = true) : OexC K C := by
  unfold oexB at h
  obtain ⟨h1, h⟩ := Bool.and_eq_true_iff.mp h
  obtain ⟨h2, h⟩ := Bool.and_eq_true_iff.mp h
  obtain ⟨h3, h⟩ := Bool.and_eq_true_iff.mp h
  obtain ⟨h4, h5⟩ := Bool.and_eq_true_iff.mp h
  refine ⟨?_, of_decide_eq_true h2, of_decide_eq_true h3, of_decide_eq_true h4, h5⟩
  split at h1
  · rename_i dd cd sl ho
    split at h1
    · rename_i C' bm k0 k1 k2 k3 n k5 hm hs
      simp only [Bool.and_eq_true, beq_iff_eq, Bool.not_eq_true'] at h1
      obtain ⟨⟨⟨⟨rfl, rfl⟩, hdel⟩, hd⟩, hb⟩ := h1
      obtain ⟨nm, bs, mro, nsp, qn, hdc, sn, sub, ab, col, del⟩ := cd
      dsimp only at hm hdel hd
      subst hm hdel hd
      have hsl : sl = #[k0, k1, k2, k3, some (.builtin "ValueError.__new__"), k5] := by
        obtain ⟨l⟩ := sl
        simp only at hs
        rw [hs]
      subst hsl
      exact ⟨nm, qn, nsp, bs, bm, sn, sub, ab, col, dd, k0, k1, k2, k3, k5, ho, hb⟩
    · cases h1
  · cases h1
def excB (K : PySem.W.Frag) (C : Addr) : Bool := decide (PySem.W.findIn K (.ref C) "__getattribute__" = some (some (.builtin "BaseException.__getattribute__"))) && (decide (PySem.W.findIn K (.ref C) "__getattr__" = some none) && (decide (PySem.W.subIn K (.ref C) (.type "BaseException") = some true) && (PySem.W.hasDictIn K C && (decide (PySem.W.findIn K (.ref C) "__class__" = some (some (.builtin "object.__class__"))) && (decide (PySem.W.specialIn K (.builtin "object.__class__") "__get__" = some (some (.builtin "getset_descriptor.__get__"))) &&
  (decide (PySem.W.takesIn K (.builtin "object.__class__") = some true) && decide (PySem.W.mroIn K C (.type "object") = some true)))))))
theorem excB_ok {K : PySem.W.Frag} {C : Addr} (h : excB K C = true) : ExcC K C := by
  unfold excB at h
  obtain ⟨h1, h⟩ := Bool.and_eq_true_iff.mp h
  obtain ⟨h2, h⟩ := Bool.and_eq_true_iff.mp h
  obtain ⟨h3, h⟩ := Bool.and_eq_true_iff.mp h
  obtain ⟨h4, h⟩ := Bool.and_eq_true_iff.mp h
  obtain ⟨h5, h⟩ := Bool.and_eq_true_iff.mp h
  obtain ⟨h6, h⟩ := Bool.and_eq_true_iff.mp h
  obtain ⟨h7, h8⟩ := Bool.and_eq_true_iff.mp h
  exact ⟨of_decide_eq_true h1, of_decide_eq_true h2, of_decide_eq_true h3, h4, of_decide_eq_true h5, of_decide_eq_true h6, of_decide_eq_true h7, of_decide_eq_true h8⟩
def upB (K : PySem.W.Frag) (L : Addr) : Bool := PySem.W.readsIn K L (.type "type") && (decide (PySem.W.specialIn K (.ref L) "__getattribute__" = some (some (.builtin "type.__getattribute__"))) && (match PySem.W.findCls K (.ref L) (.type "type") "__init__" with
  | some (.val (.builtin n)) => n == "ValueError.__init__"
  | _ => false))
theorem upB_ok {K : PySem.W.Frag} {mg : Str → Option Value} {x : Str} {L : Addr} (g : mg x = some (.ref L)) (h : upB K L = true) : UpC K mg x L := by
  unfold upB at h
  obtain ⟨h1, h⟩ := Bool.and_eq_true_iff.mp h
  obtain ⟨h2, h3⟩ := Bool.and_eq_true_iff.mp h
  refine ⟨g, h1, of_decide_eq_true h2, ?_⟩
  split at h3
  · rename_i n e
    rw [e, beq_iff_eq.mp h3]
  · cases h3
theorem xcT_of {K : PySem.W.Frag} {mg : Str → Option Value} {x : Str} (g : mg x = some (.ref (He.ga K x))) (c : (He.Fa.exc x).ok K = true) : XcT K mg x (He.ga K x) := by
  obtain ⟨h1, h2, h3, h4⟩ := He.exc_ok c
  exact ⟨⟨_, PySem.F.excBase_ValueError, h1⟩, g, h2, h3, h4⟩
theorem cst_ref {K : PySem.W.Frag} {mg : Str → Option Value} {x : Str} {C : Addr} (g : mg x = some (.ref C)) : Cst K mg x (.ref C) := ⟨_, .ref C, g, rfl, fun F => .ref C⟩
/-- an error class's __init__ is the def at f -/
def iniB (K : PySem.W.Frag) (C f : Addr) (fld : Str) : Bool := decide (PySem.W.findIn K (.ref C) "__init__" = some (some (.ref f))) && (decide (PySem.W.typeIn K (.ref f) = some (.type "function")) && decide (PySem.W.findIn K (.ref C) fld = some none))
theorem iniB_ok {K : PySem.W.Frag} {C f : Addr} {fld : Str} (h : iniB K C f fld = true) : PySem.W.findIn K (.ref C) "__init__" = some (some (.ref f)) ∧ PySem.W.typeIn K (.ref f) = some (.type "function") ∧ PySem.W.findIn K (.ref C) fld = some none := by
  unfold iniB at h
  obtain ⟨h1, h⟩ := Bool.and_eq_true_iff.mp h
  obtain ⟨h2, h3⟩ := Bool.and_eq_true_iff.mp h
  exact ⟨of_decide_eq_true h1, of_decide_eq_true h2, of_decide_eq_true h3⟩
/-- the law's code object, by the head's facts -/
theorem codeAt_of {K : PySem.W.Frag} {x qual : Str} {st : Stmt} {fd : FuncData} {p : He.Defn} (F : Fun K x qual st (He.fAd K p) fd) : CodeAt K (He.fAd K p) (.ref (He.cT K p).1) := by
  obtain ⟨oc, od, kV, doc, pm, an, cdv, ct, osl, rfl, lk, hcd⟩ := F.ex
  obtain ⟨c, rfl⟩ := He.codeIn_ref hcd
  exact ⟨oc, od, _, osl, lk, by rw [show (He.cT K p).1 = c from He.codeOf_eq lk rfl]⟩
/-! ### the Hook, with the table of the interpreter's own statics -/
def asS (g : Addr → Option Obj) (n : Nat) : List Addr := He.asD g n ++ [cStatics]
def obsY (n : Nat) (fa : List He.Fa) (fn : List He.DefD) (tf : List He.Defn) (ex : PySem.W.Frag → Bool) (g : Addr → Option Obj) : He.AlX :=
  (He.obsT fa fn [] (He.frT g (asS g n)), ex (He.frT g (asS g n)) && He.tabsB g tf (He.frT g (asS g n)))
theorem saysY {n : Nat} {fa : List He.Fa} {fn : List He.DefD} {tf : List He.Defn} {ex : PySem.W.Frag → Bool} {w : World} {h : Heap} (e : obsY n fa fn tf ex h.get? = He.valX fn [] w) : He.SaysX fa fn [] tf ex w h (He.frT h.get? (asS h.get? n)) := by
  have e1 := congrArg Prod.fst e
  have e2 : (ex (He.frT h.get? (asS h.get? n)) && He.tabsB h.get? tf (He.frT h.get? (asS h.get? n))) = true := congrArg Prod.snd e
  obtain ⟨h1, h2⟩ := Bool.and_eq_true_iff.mp e2
  have key := fun p hp => List.all_eq_true.mp (show (tf.all _) = true from h2) p hp
  have one : ∀ p ∈ tf, PySem.W.codeHdIn (He.frT h.get? (asS h.get? n)) (He.cT (He.frT h.get? (asS h.get? n)) p).1 (He.cT (He.frT h.get? (asS h.get? n)) p).2 = true ∧ ∃ o, h.get? (He.cT (He.frT h.get? (asS h.get? n)) p).2 = some o ∧ He.emptyTab o = true := by
    intro p hp
    obtain ⟨h3, h4⟩ := Bool.and_eq_true_iff.mp (key p hp)
    refine ⟨h3, ?_⟩
    cases q : h.get? (He.cT (He.frT h.get? (asS h.get? n)) p).2 with
    | none => rw [q] at h4; cases h4
    | some o => rw [q] at h4; exact ⟨o, rfl, h4⟩
  refine ⟨e1, h1, fun p hp => (one p hp).1, fun p hp => ?_, fun p hp => ?_⟩
  · obtain ⟨o, q, z⟩ := (one p hp).2
    exact He.frT_none q z
  · obtain ⟨o, q, z⟩ := (one p hp).2
    rw [q, He.emptyTab_eq z]
def hookY (n : Nat) (fa : List He.Fa) (fn : List He.DefD) (tf : List He.Defn) (ex : PySem.W.Frag → Bool) : PySem.W.Hook where
  α := He.AlX
  obs := fun s => obsY n fa fn tf ex s.heap.get?
  val := fun w => He.valX fn [] w
  says := fun w h => ∃ K : PySem.W.Frag, K.In h ∧ He.SaysX fa fn [] tf ex w h K
  of := fun _ _ e => ⟨_, He.frT_in, saysY e⟩
  keeps := fun _ _ _ ⟨K, i, c⟩ k => ⟨K, i.keeps k, c.t, c.more, c.hd, c.out, fun p hp => k _ _ (c.empty p hp)⟩
theorem obsY_eq {n : Nat} {fa : List He.Fa} {fn : List He.DefD} {tf : List He.Defn} {ex : PySem.W.Frag → Bool} {g : Addr → Option Obj} {s : Shared} (h : ∀ a, g a = s.heap.get? a) : obsY n fa fn tf ex g = (hookY n fa fn tf ex).obs s := by
  obtain rfl : g = s.heap.get? := funext h
  rfl
end FL

namespace Lw
open PySem PySem.Spec PyProof.Rows L2 FL
local macro_rules | `(tactic| wtm_at "c") => `(tactic| first
  | ((with_reducible refine' ex_listRg ?c ?l ?lm ?g ?gm ?s ?t ?q); (case c => rfl); (case l => rfl); (case lm => assumption); (case g => rfl); (case gm => assumption); (case s => rfl); (case t => rfl))
  | ((with_reducible refine' ex_callB ?c ?he ?hp ?q); (case c => first | with_reducible assumption | exact Blt.fn (by with_reducible assumption) rfl (by first | with_reducible exact bb_len | with_reducible exact bb_isinstance | with_reducible exact bb_max | with_reducible exact bb_min)); (case he => rfl); (case hp => rfl))
  | ((with_reducible refine' ex_callTy ?c ?he ?hp ?q); (case c => first | with_reducible assumption | exact Blt.fn (by with_reducible assumption) rfl (by first | with_reducible exact bb_int | with_reducible exact bb_bool | with_reducible exact bb_str | with_reducible exact bb_tuple | with_reducible exact bb_list | with_reducible exact bb_dict)); (case he => rfl); (case hp => rfl))
  | ((with_reducible refine' ex_call ?c ?hr ?hg ?hd ?he ?hp ?q); (case c => first | with_reducible assumption | exact Dfn.fn (by with_reducible assumption)); (case hr => first | assumption | exact Room.mono (by assumption) (by decide)); (case hg => rfl); (case hd => rfl); (case he => rfl); (case hp => rfl))
  | ((with_reducible refine' ex_ty ?c ?q); (case c => first | with_reducible assumption | exact Blt.fn (by with_reducible assumption) rfl (by first | with_reducible exact bb_int | with_reducible exact bb_bool | with_reducible exact bb_str | with_reducible exact bb_tuple | with_reducible exact bb_list | with_reducible exact bb_dict)))
  | ((with_reducible refine' ex_glob ?c ?q); (case c => first | with_reducible assumption | exact Gb.fn (by with_reducible assumption) rfl)))
local macro_rules | `(tactic| wtm_at "cb") => `(tactic| first
  | ((with_reducible refine' ex_callB ?c ?he ?hp ?q); (case c => first | exact Blt.blk (by with_reducible assumption) rfl | exact Blt.fnb (by with_reducible assumption) rfl (by first | with_reducible exact bb_len | with_reducible exact bb_isinstance | with_reducible exact bb_max | with_reducible exact bb_min)); (case he => rfl); (case hp => rfl))
  | ((with_reducible refine' ex_callTy ?c ?he ?hp ?q); (case c => first | exact Blt.blk (by with_reducible assumption) rfl | exact Blt.fnb (by with_reducible assumption) rfl (by first | with_reducible exact bb_int | with_reducible exact bb_bool | with_reducible exact bb_str | with_reducible exact bb_tuple | with_reducible exact bb_list | with_reducible exact bb_dict)); (case he => rfl); (case hp => rfl))
  | ((with_reducible refine' ex_call ?c ?hr ?hg ?hd ?he ?hp ?q); (case c => first | exact Dfn.blk (by with_reducible assumption) | exact Dfn.fnb (by with_reducible assumption)); (case hr => first | assumption | exact Room.mono (by assumption) (by decide)); (case hg => rfl); (case hd => rfl); (case he => rfl); (case hp => rfl))
  | ((with_reducible refine' ex_ty ?c ?q); (case c => first | exact Blt.blk (by with_reducible assumption) rfl | exact Blt.fnb (by with_reducible assumption) rfl (by first | with_reducible exact bb_int | with_reducible exact bb_bool | with_reducible exact bb_str | with_reducible exact bb_tuple | with_reducible exact bb_list | with_reducible exact bb_dict)))
  | ((with_reducible refine' ex_glob ?c ?q); (case c => first | exact Gb.blk (by with_reducible assumption) rfl | exact Gb.fnb (by with_reducible assumption) rfl)))
local macro_rules | `(tactic| wtm_at "e") => `(tactic| first
  | (with_reducible refine ex_int ?_) | (with_reducible refine ex_str ?_) | (with_reducible refine ex_bl ?_) | (with_reducible refine ex_non ?_)
  | (with_reducible refine ex_bin ?_) | (with_reducible refine asB_bl ?_)
  | ((with_reducible show (ite (_ = true) _ _)); first | refine iteT' rfl ?_ | refine iteF' rfl ?_)
  | ((with_reducible refine ex_sub ?h ?q); (case h => exact fun _ _ => rfl))
  | ((with_reducible refine tx_cmp ?h ?q); (case h => first | exact nomark _ | rfl))
  | ((with_reducible refine tx_chain ?h ?q); (case h => with_unfolding_all rfl))
  | ((with_reducible refine ex_cmp ?h ?q); (case h => first | exact nomark _ | rfl))
  | ((with_reducible refine ex_chain ?h ?q); (case h => with_unfolding_all rfl))
  | (with_reducible refine tx_not ?_) | (with_reducible refine tw_and ?_) | (with_reducible refine tw_and1 ?_) | (with_reducible refine tw_or ?_) | (with_reducible refine tw_or1 ?_)
  | ((with_reducible show TX _ _ (.BoolOp _ _ _) _ _ _); refine TW.tx ?_)
  | ((with_reducible show TX _ _ (.Call _ _ _ _) _ _ _); refine tx_val (fun _ => rfl) ?_)
  | ((with_reducible show TX _ _ (.Name _ _) _ _ _); refine tx_val (fun _ => rfl) ?_)
  | (with_reducible refine ex_one ?_) | (with_reducible refine ex_and ?_) | (with_reducible refine ex_or ?_) | (with_reducible refine ex_not ?_)
  | (with_reducible refine ex_if ?_)
  | ((with_reducible refine ax_cons ?h ?q); (case h => rfl))
  | (with_reducible refine ax_nil ?_)
  | (with_reducible refine ox_add ?_) | (with_reducible refine ox_sub ?_)
  | (with_reducible refine ox_lt ?_) | (with_reducible refine ox_le ?_) | (with_reducible refine ox_gt ?_) | (with_reducible refine ox_ge ?_)
  | (with_reducible refine ox_eqI ?_) | (with_reducible refine ox_neI ?_) | (with_reducible refine ox_eqS ?_) | (with_reducible refine ox_neS ?_) | (with_reducible refine ox_eqB ?_) | (with_reducible refine ox_neB ?_)
  | (with_reducible refine ox_is ?_) | (with_reducible refine ox_isnot ?_)
  | (with_reducible refine bx_lenF ?_) | (with_reducible refine bx_lenL ?_) | (with_reducible refine bx_lenT ?_)
  | ((with_reducible refine bx_isiI ?h ?q); (case h => first | rfl | assumption))
  | ((with_reducible refine bx_isiB ?h ?q); (case h => first | rfl | assumption))
  | ((with_reducible refine bx_isiSt ?h ?q); (case h => first | rfl | assumption))
  | ((with_reducible refine bx_isiTu ?h ?q); (case h => first | rfl | assumption))
  | ((with_reducible refine bx_isiLi ?h ?q); (case h => first | rfl | assumption))
  | ((with_reducible refine bx_isiTL ?h ?q); (case h => first | rfl | assumption))
  | ((with_reducible refine ex_tup ?q)) | (with_reducible refine ex_cmp0 ?_)
  | (with_reducible refine sx_ret ?_) | (with_reducible refine sx_retN ?_)
  | ((with_reducible refine sx_expr ?h ?q); (case h => rfl))
  | ((with_reducible refine ex_fld ?h ?q); (case h => rfl))
  | ((with_reducible refine sx_fldK ?h ?q); (case h => rfl))
  | ((with_reducible refine gxs_cons ?h ?q); (case h => rfl)) | (with_reducible refine gxs_nil ?_)
  | ((with_reducible refine' gx_tup ?c ?l ?h ?g ?q); (case c => rfl); (case l => rfl); (case h => rfl); (case g => rfl))
  | (with_reducible refine sxs_one ?_) | (with_reducible refine sxs_cons ?_) | (with_reducible refine sxs_nil ?_)
  | ((with_reducible refine sx_asg ?h ?g ?i ?q); (case h => rfl); (case g => rfl); (case i => rfl)))
local macro_rules | `(tactic| wtm_at "b") => `(tactic| first | (refine sxs_one ?_) | (refine sxs_cons ?_))
local macro_rules | `(tactic| wtm_at "e2") => `(tactic| first
  | (with_reducible refine px_cons ?_) | (with_reducible refine px_nil ?_) | (with_reducible refine ex_binL ?_) | (with_reducible refine ex_binR ?_) | (with_reducible refine ex_slice ?_) | (with_reducible refine ex_sliceSt ?_) | (with_reducible refine pox_none ?_) | (with_reducible refine pox_some ?_) | (with_reducible refine slx_t ?_)
  | ((with_reducible refine ex_subL ?h ?q); (case h => exact fun _ _ => rfl))
  | ((with_reducible show (List.length _ ≤ sizeLine ∧ _)); refine And.intro (Nat.le_of_ble_eq_true rfl) ?_)
  | ((with_reducible show (ite ((!decide (_ = _)) = true) _ _)); (with_reducible refine ite_ndec (fun h => absurd rfl h) (fun _ => ?_)))
  | ((with_reducible show (ite (decide (_ = _) = true) _ _)); (with_reducible refine ite_dec (fun _ => ?_) (fun h => absurd rfl h)))
  | ((with_reducible show (IX _ _ (.tup _) (.int _) _ _ _)); refine ix_t rfl ?_)
  | ((with_reducible show (IX _ _ (.lst _) (.int _) _ _ _)); refine ix_l rfl ?_)
  | ((with_reducible show (IX _ _ (.ref _) (.int _) _ _ _)); refine ix_c (by first | with_reducible assumption | exact mupd_same) rfl ?_)
  | (refine ⟨_, (rfl : D.int _ = D.int _), (?_ : SLX _ _ _ _ _ _ _ _)⟩) | (refine ⟨_, (rfl : D.int _ = D.int _), (?_ : POX _ _ _ _ _ _)⟩)
  | (refine ⟨_, _, _, _, (rfl : D.ref _ = D.ref _), (by wtm_at "me"), Ki.cls (by assumption), Ki.no (by assumption) _ (by decide +kernel), (by wtm_at "lk"), ?_⟩)
  | (refine ⟨_, _, _, _, _, (rfl : D.ref _ = D.ref _), (by wtm_at "me"), (by assumption : Ki _ _ _), (by decide +kernel), (Nat.le_of_ble_eq_true rfl), (by wtm_at "put"), ?_⟩)
  | (refine ⟨_, _, _, _, _, (rfl : D.ref _ = D.ref _), (by wtm_at "me"), (by assumption : Mth _ _ _ _ _ _ _ _ _), (by first | assumption | exact Room.mono (by assumption) (by decide)), (by wtm_at "ln"), ?_⟩))
local macro_rules | `(tactic| wtm_at "lk") => `(tactic| repeat (first | exact lk_hit | apply lk_skip (by decide +kernel)))
local macro_rules | `(tactic| wtm_at "ln") => `(tactic| repeat (first | exact lk_nil | apply lk_none (by decide +kernel)))
local macro_rules | `(tactic| wtm_at "put") => `(tactic| repeat (first | exact put_hit | exact put_nil | apply put_skip (by decide +kernel)))
local macro_rules | `(tactic| wtm_at "me") => `(tactic| first | with_reducible assumption | exact mupd_same | (rw [mupd_ne (by assumption)]; with_reducible assumption))
local macro_rules | `(tactic| wtm_at "m") => `(tactic| first
  | ((with_reducible refine' ex_methV ?hs ?hp ?ht ?q); (case hs => rfl); (case hp => rfl); (case ht => rfl))
  | ((with_reducible refine' ex_methV0 ?ht ?q); (case ht => rfl)))
local macro_rules | `(tactic| wtm_at "mk") => `(tactic| (with_reducible refine' ex_make ?c ?hr ?hg ?hd ?he ?hp ?q); (case c => assumption); (case hr => first | assumption | exact Room.mono (by assumption) (by decide)); (case hg => rfl); (case hd => rfl); (case he => rfl); (case hp => rfl))
local macro_rules | `(tactic| wtm_at "ei") => `(tactic| with_reducible refine sx_if ?_)
local macro_rules | `(tactic| wtm_at "ss") => `(tactic| (with_reducible refine' ex_sortedSet ?h1 ?h2 ?h3 ?h4 ?h5 ?h6 ?h7 ?q); (case h1 => rfl); (case h2 => exact Blt.fn (by with_reducible assumption) rfl bb_sorted); (case h3 => exact Blt.fn (by with_reducible assumption) rfl bb_set); (case h4 => rfl); (case h5 => rfl); (case h6 => rfl); (case h7 => rfl))
local macro_rules | `(tactic| wtm_at "cx") => `(tactic| first
  | ((with_reducible refine' ex_callB ?c ?he ?hp ?q); (case c => exact Blt.any (by assumption) rfl (by first | with_reducible exact bb_len | with_reducible exact bb_isinstance | with_reducible exact bb_max | with_reducible exact bb_min)); (case he => rfl); (case hp => rfl))
  | ((with_reducible refine' ex_callTy ?c ?he ?hp ?q); (case c => exact Blt.any (by assumption) rfl (by first | with_reducible exact bb_int | with_reducible exact bb_bool | with_reducible exact bb_str | with_reducible exact bb_tuple | with_reducible exact bb_list | with_reducible exact bb_dict)); (case he => rfl); (case hp => rfl))
  | ((with_reducible refine' ex_call ?c ?hr ?hg ?hd ?he ?hp ?q); (case c => assumption); (case hr => first | assumption | exact Room.mono (by assumption) (by decide)); (case hg => rfl); (case hd => rfl); (case he => rfl); (case hp => rfl))
  | ((with_reducible refine' ex_ty ?c ?q); (case c => exact Blt.any (by assumption) rfl (by first | with_reducible exact bb_int | with_reducible exact bb_bool | with_reducible exact bb_str | with_reducible exact bb_tuple | with_reducible exact bb_list | with_reducible exact bb_dict | with_reducible exact bb_VE)))
  | ((with_reducible refine' ex_glob ?c ?q); (case c => exact Gb.ofC rfl (by assumption) (by decide))))

/-! the text by places -/
def top (i : Nat) : Stmt := PySem.Challenge.pw_faruplink_k17_texts_refused.main.body.getD i (.Pass ⟨0, 0, 0, 0⟩)
abbrev s_BadText_init : Stmt := inClass (top 14) 0
abbrev n_BadText_init : List Str := ["self", "row"]
theorem sc_BadText_init : FnScope n_BadText_init ["self", "row"] (defScope s_BadText_init) := ⟨rfl, rfl, rfl, by decide +kernel, rfl, by decide +kernel, by decide +kernel⟩
theorem a_BadText_init_0 : atB n_BadText_init (defScope s_BadText_init) 0 "self" = true := by decide +kernel
theorem a_BadText_init_1 : atB n_BadText_init (defScope s_BadText_init) 1 "row" = true := by decide +kernel
local macro_rules | `(tactic| wtm_at "v BadText_init") => `(tactic| first
  | ((with_reducible refine' ex_var (i := 0) (x := "self") ?h ?g ?q); (case h => exact At.of rfl rfl a_BadText_init_0); (case g => rfl))
  | ((with_reducible refine' ex_var (i := 1) (x := "row") ?h ?g ?q); (case h => exact At.of rfl rfl a_BadText_init_1); (case g => rfl))
  | ((with_reducible refine sx_set (i := 0) (x := "self") ?h ?s ?q); (case h => exact Lc.of sc_BadText_init.nd rfl rfl (.inl rfl) a_BadText_init_0); (case s => rfl))
  | ((with_reducible refine gx_name (i := 0) (x := "self") ?h ?q); (case h => exact Lc.of sc_BadText_init.nd rfl rfl (.inl rfl) a_BadText_init_0))
  | ((with_reducible refine sx_set (i := 1) (x := "row") ?h ?s ?q); (case h => exact Lc.of sc_BadText_init.nd rfl rfl (.inl rfl) a_BadText_init_1); (case s => rfl))
  | ((with_reducible refine gx_name (i := 1) (x := "row") ?h ?q); (case h => exact Lc.of sc_BadText_init.nd rfl rfl (.inl rfl) a_BadText_init_1)))
local macro_rules | `(tactic| wtm_at "vb BadText_init") => `(tactic| first
  | ((with_reducible refine' ex_var (i := 0) (x := "self") ?h ?g ?q); (case h => exact At.b rfl (by first | exact Or.inl rfl | exact Or.inr (Or.inl rfl) | exact Or.inr (Or.inr rfl))); (case g => rfl))
  | ((with_reducible refine' ex_var (i := 1) (x := "row") ?h ?g ?q); (case h => exact At.b rfl (by first | exact Or.inl rfl | exact Or.inr (Or.inl rfl) | exact Or.inr (Or.inr rfl))); (case g => rfl)))
local macro_rules | `(tactic| wtm_at "w BadText_init") => `(tactic| repeat (first | wtm_at "v BadText_init" | wtm_at "e" | wtm_at "ei" | wtm_at "c"))
local macro_rules | `(tactic| wtm_at "wb BadText_init") => `(tactic| repeat (first | wtm_at "vb BadText_init" | wtm_at "e" | wtm_at "cb"))
local macro_rules | `(tactic| wtm_at "g BadText_init") => `(tactic| repeat (first | wtm_at "v BadText_init" | wtm_at "e2" | wtm_at "e" | wtm_at "ei" | wtm_at "c"))
local macro_rules | `(tactic| wtm_at "gb BadText_init") => `(tactic| repeat (first | wtm_at "vb BadText_init" | wtm_at "e2" | wtm_at "e" | wtm_at "cb"))
local macro_rules | `(tactic| wtm_at "h BadText_init") => `(tactic| repeat (first | wtm_at "v BadText_init" | wtm_at "e2" | wtm_at "e" | wtm_at "c"))
local macro_rules | `(tactic| wtm_at "gx BadText_init") => `(tactic| repeat (first | wtm_at "v BadText_init" | wtm_at "e2" | wtm_at "e" | wtm_at "ei" | wtm_at "cx"))
local macro_rules | `(tactic| wtm_at "hx BadText_init") => `(tactic| repeat (first | wtm_at "v BadText_init" | wtm_at "e2" | wtm_at "e" | wtm_at "cx"))
local macro_rules | `(tactic| wtm_at "gy BadText_init") => `(tactic| repeat (first | wtm_at "vb BadText_init" | wtm_at "e2" | wtm_at "e" | wtm_at "cx"))
local macro_rules | `(tactic| wtm_at "hx1 BadText_init") => `(tactic| first | wtm_at "v BadText_init" | wtm_at "e2" | wtm_at "e" | wtm_at "cx")
abbrev X_BadText_init (P : Program) (w : World) (K : PySem.W.Frag) (mg : Str → Option Value) (base : Heap) (f : Addr) (cdv : Value) (A : Around) (outer : List Env) (s : Shared) (H : Hp) (E : XK) : Cx := (cxOf CX0 P w K mg base n_BadText_init "BadText.__init__" (defScope s_BadText_init) f cdv A outer s H E).nox
abbrev s_step_of : Stmt := top 19
abbrev n_step_of : List Str := ["words", "sign"]
theorem sc_step_of : FnScope n_step_of ["words"] (defScope s_step_of) := ⟨rfl, rfl, rfl, by decide +kernel, rfl, by decide +kernel, by decide +kernel⟩
theorem a_step_of_0 : atB n_step_of (defScope s_step_of) 0 "words" = true := by decide +kernel
local macro_rules | `(tactic| wtm_at "v step_of") => `(tactic| first
  | ((with_reducible refine' ex_var (i := 0) (x := "words") ?h ?g ?q); (case h => exact At.of rfl rfl a_step_of_0); (case g => rfl))
  | ((with_reducible refine sx_set (i := 0) (x := "words") ?h ?s ?q); (case h => exact Lc.of sc_step_of.nd rfl rfl (.inl rfl) a_step_of_0); (case s => rfl))
  | ((with_reducible refine gx_name (i := 0) (x := "words") ?h ?q); (case h => exact Lc.of sc_step_of.nd rfl rfl (.inl rfl) a_step_of_0)))
local macro_rules | `(tactic| wtm_at "vb step_of") => `(tactic| first
  | ((with_reducible refine' ex_var (i := 0) (x := "words") ?h ?g ?q); (case h => exact At.b rfl (by first | exact Or.inl rfl | exact Or.inr (Or.inl rfl) | exact Or.inr (Or.inr rfl))); (case g => rfl))
  | ((with_reducible refine' ex_var (i := 1) (x := "sign") ?h ?g ?q); (case h => exact At.b rfl (by first | exact Or.inl rfl | exact Or.inr (Or.inl rfl) | exact Or.inr (Or.inr rfl))); (case g => rfl)))
local macro_rules | `(tactic| wtm_at "w step_of") => `(tactic| repeat (first | wtm_at "v step_of" | wtm_at "e" | wtm_at "ei" | wtm_at "c"))
local macro_rules | `(tactic| wtm_at "wb step_of") => `(tactic| repeat (first | wtm_at "vb step_of" | wtm_at "e" | wtm_at "cb"))
local macro_rules | `(tactic| wtm_at "g step_of") => `(tactic| repeat (first | wtm_at "v step_of" | wtm_at "e2" | wtm_at "e" | wtm_at "ei" | wtm_at "c"))
local macro_rules | `(tactic| wtm_at "gb step_of") => `(tactic| repeat (first | wtm_at "vb step_of" | wtm_at "e2" | wtm_at "e" | wtm_at "cb"))
local macro_rules | `(tactic| wtm_at "h step_of") => `(tactic| repeat (first | wtm_at "v step_of" | wtm_at "e2" | wtm_at "e" | wtm_at "c"))
local macro_rules | `(tactic| wtm_at "gx step_of") => `(tactic| repeat (first | wtm_at "v step_of" | wtm_at "e2" | wtm_at "e" | wtm_at "ei" | wtm_at "cx"))
local macro_rules | `(tactic| wtm_at "hx step_of") => `(tactic| repeat (first | wtm_at "v step_of" | wtm_at "e2" | wtm_at "e" | wtm_at "cx"))
local macro_rules | `(tactic| wtm_at "gy step_of") => `(tactic| repeat (first | wtm_at "vb step_of" | wtm_at "e2" | wtm_at "e" | wtm_at "cx"))
local macro_rules | `(tactic| wtm_at "hx1 step_of") => `(tactic| first | wtm_at "v step_of" | wtm_at "e2" | wtm_at "e" | wtm_at "cx")
local macro_rules | `(tactic| wtm_at "lc step_of 0") => `(tactic| refine' ex_lc (own := [("sign", 1)]) (t := .inl 1)  rfl sc_step_of.nd (blkOk_by (N := n_step_of) (sc := defScope s_step_of) (by decide +kernel)) (by decide) (fun _ _ _ _ _ => pg_name (i := 1) sc_step_of.nd rfl (Or.inl rfl)) (fun _ => rfl) ?_)
local macro_rules | `(tactic| wtm_at "lcM step_of 0") => `(tactic| refine' ex_lcM (own := [("sign", 1)]) (t := .inl 1)  rfl sc_step_of.nd (blkOk_by (N := n_step_of) (sc := defScope s_step_of) (by decide +kernel)) (by decide) (fun _ _ _ _ _ => pg_name (i := 1) sc_step_of.nd rfl (Or.inl rfl)) (fun _ => rfl) ?_)
local macro_rules | `(tactic| wtm_at "lcp step_of 0") => `(tactic| refine' ex_lcp (own := [("sign", 1)]) (t := .inl 1) ?f rfl sc_step_of.nd (blkOk_by (N := n_step_of) (sc := defScope s_step_of) (by decide +kernel)) (by decide) (fun _ _ _ _ _ => pg_name (i := 1) sc_step_of.nd rfl (Or.inl rfl)) (fun _ => rfl) ?_)
local macro_rules | `(tactic| wtm_at "lcpM step_of 0") => `(tactic| refine' ex_lcpM (own := [("sign", 1)]) (t := .inl 1) ?f rfl sc_step_of.nd (blkOk_by (N := n_step_of) (sc := defScope s_step_of) (by decide +kernel)) (by decide) (fun _ _ _ _ _ => pg_name (i := 1) sc_step_of.nd rfl (Or.inl rfl)) (fun _ => rfl) ?_)
abbrev X_step_of (P : Program) (w : World) (K : PySem.W.Frag) (mg : Str → Option Value) (base : Heap) (f : Addr) (cdv : Value) (A : Around) (outer : List Env) (s : Shared) (H : Hp) (E : XK) : Cx := (cxOf CX0 P w K mg base n_step_of "step_of" (defScope s_step_of) f cdv A outer s H E).nox
abbrev s_read : Stmt := top 20
abbrev n_read : List Str := ["text", "found", "row", "line", "step"]
theorem sc_read : FnScope n_read ["text"] (defScope s_read) := ⟨rfl, rfl, rfl, by decide +kernel, rfl, by decide +kernel, by decide +kernel⟩
theorem a_read_0 : atB n_read (defScope s_read) 0 "text" = true := by decide +kernel
theorem a_read_1 : atB n_read (defScope s_read) 1 "found" = true := by decide +kernel
theorem a_read_2 : atB n_read (defScope s_read) 2 "row" = true := by decide +kernel
theorem a_read_3 : atB n_read (defScope s_read) 3 "line" = true := by decide +kernel
theorem a_read_4 : atB n_read (defScope s_read) 4 "step" = true := by decide +kernel
local macro_rules | `(tactic| wtm_at "v read") => `(tactic| first
  | ((with_reducible refine' ex_var (i := 0) (x := "text") ?h ?g ?q); (case h => exact At.of rfl rfl a_read_0); (case g => rfl))
  | ((with_reducible refine' ex_var (i := 1) (x := "found") ?h ?g ?q); (case h => exact At.of rfl rfl a_read_1); (case g => rfl))
  | ((with_reducible refine' ex_var (i := 2) (x := "row") ?h ?g ?q); (case h => exact At.of rfl rfl a_read_2); (case g => rfl))
  | ((with_reducible refine' ex_var (i := 3) (x := "line") ?h ?g ?q); (case h => exact At.of rfl rfl a_read_3); (case g => rfl))
  | ((with_reducible refine' ex_var (i := 4) (x := "step") ?h ?g ?q); (case h => exact At.of rfl rfl a_read_4); (case g => rfl))
  | ((with_reducible refine sx_set (i := 0) (x := "text") ?h ?s ?q); (case h => exact Lc.of sc_read.nd rfl rfl (.inl rfl) a_read_0); (case s => rfl))
  | ((with_reducible refine gx_name (i := 0) (x := "text") ?h ?q); (case h => exact Lc.of sc_read.nd rfl rfl (.inl rfl) a_read_0))
  | ((with_reducible refine sx_set (i := 1) (x := "found") ?h ?s ?q); (case h => exact Lc.of sc_read.nd rfl rfl (.inl rfl) a_read_1); (case s => rfl))
  | ((with_reducible refine gx_name (i := 1) (x := "found") ?h ?q); (case h => exact Lc.of sc_read.nd rfl rfl (.inl rfl) a_read_1))
  | ((with_reducible refine sx_set (i := 2) (x := "row") ?h ?s ?q); (case h => exact Lc.of sc_read.nd rfl rfl (.inl rfl) a_read_2); (case s => rfl))
  | ((with_reducible refine gx_name (i := 2) (x := "row") ?h ?q); (case h => exact Lc.of sc_read.nd rfl rfl (.inl rfl) a_read_2))
  | ((with_reducible refine sx_set (i := 3) (x := "line") ?h ?s ?q); (case h => exact Lc.of sc_read.nd rfl rfl (.inl rfl) a_read_3); (case s => rfl))
  | ((with_reducible refine gx_name (i := 3) (x := "line") ?h ?q); (case h => exact Lc.of sc_read.nd rfl rfl (.inl rfl) a_read_3))
  | ((with_reducible refine sx_set (i := 4) (x := "step") ?h ?s ?q); (case h => exact Lc.of sc_read.nd rfl rfl (.inl rfl) a_read_4); (case s => rfl))
  | ((with_reducible refine gx_name (i := 4) (x := "step") ?h ?q); (case h => exact Lc.of sc_read.nd rfl rfl (.inl rfl) a_read_4)))
local macro_rules | `(tactic| wtm_at "vb read") => `(tactic| first
  | ((with_reducible refine' ex_var (i := 0) (x := "text") ?h ?g ?q); (case h => exact At.b rfl (by first | exact Or.inl rfl | exact Or.inr (Or.inl rfl) | exact Or.inr (Or.inr rfl))); (case g => rfl))
  | ((with_reducible refine' ex_var (i := 1) (x := "found") ?h ?g ?q); (case h => exact At.b rfl (by first | exact Or.inl rfl | exact Or.inr (Or.inl rfl) | exact Or.inr (Or.inr rfl))); (case g => rfl))
  | ((with_reducible refine' ex_var (i := 2) (x := "row") ?h ?g ?q); (case h => exact At.b rfl (by first | exact Or.inl rfl | exact Or.inr (Or.inl rfl) | exact Or.inr (Or.inr rfl))); (case g => rfl))
  | ((with_reducible refine' ex_var (i := 3) (x := "line") ?h ?g ?q); (case h => exact At.b rfl (by first | exact Or.inl rfl | exact Or.inr (Or.inl rfl) | exact Or.inr (Or.inr rfl))); (case g => rfl))
  | ((with_reducible refine' ex_var (i := 4) (x := "step") ?h ?g ?q); (case h => exact At.b rfl (by first | exact Or.inl rfl | exact Or.inr (Or.inl rfl) | exact Or.inr (Or.inr rfl))); (case g => rfl)))
local macro_rules | `(tactic| wtm_at "w read") => `(tactic| repeat (first | wtm_at "v read" | wtm_at "e" | wtm_at "ei" | wtm_at "c"))
local macro_rules | `(tactic| wtm_at "wb read") => `(tactic| repeat (first | wtm_at "vb read" | wtm_at "e" | wtm_at "cb"))
local macro_rules | `(tactic| wtm_at "g read") => `(tactic| repeat (first | wtm_at "v read" | wtm_at "e2" | wtm_at "e" | wtm_at "ei" | wtm_at "c"))
local macro_rules | `(tactic| wtm_at "gb read") => `(tactic| repeat (first | wtm_at "vb read" | wtm_at "e2" | wtm_at "e" | wtm_at "cb"))
local macro_rules | `(tactic| wtm_at "h read") => `(tactic| repeat (first | wtm_at "v read" | wtm_at "e2" | wtm_at "e" | wtm_at "c"))
local macro_rules | `(tactic| wtm_at "gx read") => `(tactic| repeat (first | wtm_at "v read" | wtm_at "e2" | wtm_at "e" | wtm_at "ei" | wtm_at "cx"))
local macro_rules | `(tactic| wtm_at "hx read") => `(tactic| repeat (first | wtm_at "v read" | wtm_at "e2" | wtm_at "e" | wtm_at "cx"))
local macro_rules | `(tactic| wtm_at "gy read") => `(tactic| repeat (first | wtm_at "vb read" | wtm_at "e2" | wtm_at "e" | wtm_at "cx"))
local macro_rules | `(tactic| wtm_at "hx1 read") => `(tactic| first | wtm_at "v read" | wtm_at "e2" | wtm_at "e" | wtm_at "cx")
abbrev X_read (P : Program) (w : World) (K : PySem.W.Frag) (mg : Str → Option Value) (base : Heap) (f : Addr) (cdv : Value) (A : Around) (outer : List Env) (s : Shared) (H : Hp) (E : XK) : Cx := (cxOf CX0 P w K mg base n_read "read" (defScope s_read) f cdv A outer s H E).nox
abbrev s_L_taken : Stmt := top 22
abbrev n_L_taken : List Str := ["_law_row", "_law_many", "_law_cell"]
theorem sc_L_taken : FnScope n_L_taken ["_law_row", "_law_many"] (defScope s_L_taken) := ⟨rfl, rfl, rfl, by decide +kernel, rfl, by decide +kernel, by decide +kernel⟩
theorem a_L_taken_0 : atB n_L_taken (defScope s_L_taken) 0 "_law_row" = true := by decide +kernel
theorem a_L_taken_1 : atB n_L_taken (defScope s_L_taken) 1 "_law_many" = true := by decide +kernel
theorem a_L_taken_2 : atB n_L_taken (defScope s_L_taken) 2 "_law_cell" = true := by decide +kernel
local macro_rules | `(tactic| wtm_at "v L_taken") => `(tactic| first
  | ((with_reducible refine' ex_var (i := 0) (x := "_law_row") ?h ?g ?q); (case h => exact At.of rfl rfl a_L_taken_0); (case g => rfl))
  | ((with_reducible refine' ex_var (i := 1) (x := "_law_many") ?h ?g ?q); (case h => exact At.of rfl rfl a_L_taken_1); (case g => rfl))
  | ((with_reducible refine' ex_var (i := 2) (x := "_law_cell") ?h ?g ?q); (case h => exact At.of rfl rfl a_L_taken_2); (case g => rfl))
  | ((with_reducible refine sx_set (i := 0) (x := "_law_row") ?h ?s ?q); (case h => exact Lc.of sc_L_taken.nd rfl rfl (.inl rfl) a_L_taken_0); (case s => rfl))
  | ((with_reducible refine gx_name (i := 0) (x := "_law_row") ?h ?q); (case h => exact Lc.of sc_L_taken.nd rfl rfl (.inl rfl) a_L_taken_0))
  | ((with_reducible refine sx_set (i := 1) (x := "_law_many") ?h ?s ?q); (case h => exact Lc.of sc_L_taken.nd rfl rfl (.inl rfl) a_L_taken_1); (case s => rfl))
  | ((with_reducible refine gx_name (i := 1) (x := "_law_many") ?h ?q); (case h => exact Lc.of sc_L_taken.nd rfl rfl (.inl rfl) a_L_taken_1))
  | ((with_reducible refine sx_set (i := 2) (x := "_law_cell") ?h ?s ?q); (case h => exact Lc.of sc_L_taken.nd rfl rfl (.inl rfl) a_L_taken_2); (case s => rfl))
  | ((with_reducible refine gx_name (i := 2) (x := "_law_cell") ?h ?q); (case h => exact Lc.of sc_L_taken.nd rfl rfl (.inl rfl) a_L_taken_2)))
local macro_rules | `(tactic| wtm_at "vb L_taken") => `(tactic| first
  | ((with_reducible refine' ex_var (i := 0) (x := "_law_row") ?h ?g ?q); (case h => exact At.b rfl (by first | exact Or.inl rfl | exact Or.inr (Or.inl rfl) | exact Or.inr (Or.inr rfl))); (case g => rfl))
  | ((with_reducible refine' ex_var (i := 1) (x := "_law_many") ?h ?g ?q); (case h => exact At.b rfl (by first | exact Or.inl rfl | exact Or.inr (Or.inl rfl) | exact Or.inr (Or.inr rfl))); (case g => rfl))
  | ((with_reducible refine' ex_var (i := 2) (x := "_law_cell") ?h ?g ?q); (case h => exact At.b rfl (by first | exact Or.inl rfl | exact Or.inr (Or.inl rfl) | exact Or.inr (Or.inr rfl))); (case g => rfl)))
local macro_rules | `(tactic| wtm_at "w L_taken") => `(tactic| repeat (first | wtm_at "v L_taken" | wtm_at "e" | wtm_at "ei" | wtm_at "c"))
local macro_rules | `(tactic| wtm_at "wb L_taken") => `(tactic| repeat (first | wtm_at "vb L_taken" | wtm_at "e" | wtm_at "cb"))
local macro_rules | `(tactic| wtm_at "g L_taken") => `(tactic| repeat (first | wtm_at "v L_taken" | wtm_at "e2" | wtm_at "e" | wtm_at "ei" | wtm_at "c"))
local macro_rules | `(tactic| wtm_at "gb L_taken") => `(tactic| repeat (first | wtm_at "vb L_taken" | wtm_at "e2" | wtm_at "e" | wtm_at "cb"))
local macro_rules | `(tactic| wtm_at "h L_taken") => `(tactic| repeat (first | wtm_at "v L_taken" | wtm_at "e2" | wtm_at "e" | wtm_at "c"))
local macro_rules | `(tactic| wtm_at "gx L_taken") => `(tactic| repeat (first | wtm_at "v L_taken" | wtm_at "e2" | wtm_at "e" | wtm_at "ei" | wtm_at "cx"))
local macro_rules | `(tactic| wtm_at "hx L_taken") => `(tactic| repeat (first | wtm_at "v L_taken" | wtm_at "e2" | wtm_at "e" | wtm_at "cx"))
local macro_rules | `(tactic| wtm_at "gy L_taken") => `(tactic| repeat (first | wtm_at "vb L_taken" | wtm_at "e2" | wtm_at "e" | wtm_at "cx"))
local macro_rules | `(tactic| wtm_at "hx1 L_taken") => `(tactic| first | wtm_at "v L_taken" | wtm_at "e2" | wtm_at "e" | wtm_at "cx")
abbrev X_L_taken (P : Program) (w : World) (K : PySem.W.Frag) (mg : Str → Option Value) (base : Heap) (f : Addr) (cdv : Value) (A : Around) (outer : List Env) (s : Shared) (H : Hp) (E : XK) : Cx := (cxOf CX0 P w K mg base n_L_taken "_law_taken" (defScope s_L_taken) f cdv A outer s H E).nox
abbrev s_L_alike : Stmt := top 23
abbrev n_L_alike : List Str := ["_law_found", "_law_due", "_law_k"]
theorem sc_L_alike : FnScope n_L_alike ["_law_found", "_law_due"] (defScope s_L_alike) := ⟨rfl, rfl, rfl, by decide +kernel, rfl, by decide +kernel, by decide +kernel⟩
theorem a_L_alike_0 : atB n_L_alike (defScope s_L_alike) 0 "_law_found" = true := by decide +kernel
theorem a_L_alike_1 : atB n_L_alike (defScope s_L_alike) 1 "_law_due" = true := by decide +kernel
local macro_rules | `(tactic| wtm_at "v L_alike") => `(tactic| first
  | ((with_reducible refine' ex_var (i := 0) (x := "_law_found") ?h ?g ?q); (case h => exact At.of rfl rfl a_L_alike_0); (case g => rfl))
  | ((with_reducible refine' ex_var (i := 1) (x := "_law_due") ?h ?g ?q); (case h => exact At.of rfl rfl a_L_alike_1); (case g => rfl))
  | ((with_reducible refine sx_set (i := 0) (x := "_law_found") ?h ?s ?q); (case h => exact Lc.of sc_L_alike.nd rfl rfl (.inl rfl) a_L_alike_0); (case s => rfl))
  | ((with_reducible refine gx_name (i := 0) (x := "_law_found") ?h ?q); (case h => exact Lc.of sc_L_alike.nd rfl rfl (.inl rfl) a_L_alike_0))
  | ((with_reducible refine sx_set (i := 1) (x := "_law_due") ?h ?s ?q); (case h => exact Lc.of sc_L_alike.nd rfl rfl (.inl rfl) a_L_alike_1); (case s => rfl))
  | ((with_reducible refine gx_name (i := 1) (x := "_law_due") ?h ?q); (case h => exact Lc.of sc_L_alike.nd rfl rfl (.inl rfl) a_L_alike_1)))
local macro_rules | `(tactic| wtm_at "vb L_alike") => `(tactic| first
  | ((with_reducible refine' ex_var (i := 0) (x := "_law_found") ?h ?g ?q); (case h => exact At.b rfl (by first | exact Or.inl rfl | exact Or.inr (Or.inl rfl) | exact Or.inr (Or.inr rfl))); (case g => rfl))
  | ((with_reducible refine' ex_var (i := 1) (x := "_law_due") ?h ?g ?q); (case h => exact At.b rfl (by first | exact Or.inl rfl | exact Or.inr (Or.inl rfl) | exact Or.inr (Or.inr rfl))); (case g => rfl))
  | ((with_reducible refine' ex_var (i := 2) (x := "_law_k") ?h ?g ?q); (case h => exact At.b rfl (by first | exact Or.inl rfl | exact Or.inr (Or.inl rfl) | exact Or.inr (Or.inr rfl))); (case g => rfl)))
local macro_rules | `(tactic| wtm_at "w L_alike") => `(tactic| repeat (first | wtm_at "v L_alike" | wtm_at "e" | wtm_at "ei" | wtm_at "c"))
local macro_rules | `(tactic| wtm_at "wb L_alike") => `(tactic| repeat (first | wtm_at "vb L_alike" | wtm_at "e" | wtm_at "cb"))
local macro_rules | `(tactic| wtm_at "g L_alike") => `(tactic| repeat (first | wtm_at "v L_alike" | wtm_at "e2" | wtm_at "e" | wtm_at "ei" | wtm_at "c"))
local macro_rules | `(tactic| wtm_at "gb L_alike") => `(tactic| repeat (first | wtm_at "vb L_alike" | wtm_at "e2" | wtm_at "e" | wtm_at "cb"))
local macro_rules | `(tactic| wtm_at "h L_alike") => `(tactic| repeat (first | wtm_at "v L_alike" | wtm_at "e2" | wtm_at "e" | wtm_at "c"))
local macro_rules | `(tactic| wtm_at "gx L_alike") => `(tactic| repeat (first | wtm_at "v L_alike" | wtm_at "e2" | wtm_at "e" | wtm_at "ei" | wtm_at "cx"))
local macro_rules | `(tactic| wtm_at "hx L_alike") => `(tactic| repeat (first | wtm_at "v L_alike" | wtm_at "e2" | wtm_at "e" | wtm_at "cx"))
local macro_rules | `(tactic| wtm_at "gy L_alike") => `(tactic| repeat (first | wtm_at "vb L_alike" | wtm_at "e2" | wtm_at "e" | wtm_at "cx"))
local macro_rules | `(tactic| wtm_at "hx1 L_alike") => `(tactic| first | wtm_at "v L_alike" | wtm_at "e2" | wtm_at "e" | wtm_at "cx")
local macro_rules | `(tactic| wtm_at "lc L_alike 0") => `(tactic| refine' ex_lc (own := [("_law_k", 2)]) (t := .inl 2)  rfl sc_L_alike.nd (blkOk_by (N := n_L_alike) (sc := defScope s_L_alike) (by decide +kernel)) (by decide) (fun _ _ _ _ _ => pg_name (i := 2) sc_L_alike.nd rfl (Or.inl rfl)) (fun _ => rfl) ?_)
local macro_rules | `(tactic| wtm_at "lcM L_alike 0") => `(tactic| refine' ex_lcM (own := [("_law_k", 2)]) (t := .inl 2)  rfl sc_L_alike.nd (blkOk_by (N := n_L_alike) (sc := defScope s_L_alike) (by decide +kernel)) (by decide) (fun _ _ _ _ _ => pg_name (i := 2) sc_L_alike.nd rfl (Or.inl rfl)) (fun _ => rfl) ?_)
local macro_rules | `(tactic| wtm_at "lcp L_alike 0") => `(tactic| refine' ex_lcp (own := [("_law_k", 2)]) (t := .inl 2) ?f rfl sc_L_alike.nd (blkOk_by (N := n_L_alike) (sc := defScope s_L_alike) (by decide +kernel)) (by decide) (fun _ _ _ _ _ => pg_name (i := 2) sc_L_alike.nd rfl (Or.inl rfl)) (fun _ => rfl) ?_)
local macro_rules | `(tactic| wtm_at "lcpM L_alike 0") => `(tactic| refine' ex_lcpM (own := [("_law_k", 2)]) (t := .inl 2) ?f rfl sc_L_alike.nd (blkOk_by (N := n_L_alike) (sc := defScope s_L_alike) (by decide +kernel)) (by decide) (fun _ _ _ _ _ => pg_name (i := 2) sc_L_alike.nd rfl (Or.inl rfl)) (fun _ => rfl) ?_)
abbrev X_L_alike (P : Program) (w : World) (K : PySem.W.Frag) (mg : Str → Option Value) (base : Heap) (f : Addr) (cdv : Value) (A : Around) (outer : List Env) (s : Shared) (H : Hp) (E : XK) : Cx := (cxOf CX0 P w K mg base n_L_alike "_law_alike" (defScope s_L_alike) f cdv A outer s H E).nox
abbrev s_L_word : Stmt := top 24
abbrev n_L_word : List Str := ["_law_work", "e", "_law_kinds", "_law_words", "_law_word_here"]
theorem sc_L_word : FnScope n_L_word ["_law_work"] (defScope s_L_word) := ⟨rfl, rfl, rfl, by decide +kernel, rfl, by decide +kernel, by decide +kernel⟩
theorem a_L_word_0 : atB n_L_word (defScope s_L_word) 0 "_law_work" = true := by decide +kernel
theorem a_L_word_1 : atB n_L_word (defScope s_L_word) 1 "e" = true := by decide +kernel
theorem a_L_word_2 : atB n_L_word (defScope s_L_word) 2 "_law_kinds" = true := by decide +kernel
theorem a_L_word_3 : atB n_L_word (defScope s_L_word) 3 "_law_words" = true := by decide +kernel
theorem a_L_word_4 : atB n_L_word (defScope s_L_word) 4 "_law_word_here" = true := by decide +kernel
local macro_rules | `(tactic| wtm_at "v L_word") => `(tactic| first
  | ((with_reducible refine' ex_var (i := 0) (x := "_law_work") ?h ?g ?q); (case h => exact At.of rfl rfl a_L_word_0); (case g => rfl))
  | ((with_reducible refine' ex_var (i := 1) (x := "e") ?h ?g ?q); (case h => exact At.of rfl rfl a_L_word_1); (case g => rfl))
  | ((with_reducible refine' ex_var (i := 2) (x := "_law_kinds") ?h ?g ?q); (case h => exact At.of rfl rfl a_L_word_2); (case g => rfl))
  | ((with_reducible refine' ex_var (i := 3) (x := "_law_words") ?h ?g ?q); (case h => exact At.of rfl rfl a_L_word_3); (case g => rfl))
  | ((with_reducible refine' ex_var (i := 4) (x := "_law_word_here") ?h ?g ?q); (case h => exact At.of rfl rfl a_L_word_4); (case g => rfl))
  | ((with_reducible refine sx_set (i := 0) (x := "_law_work") ?h ?s ?q); (case h => exact Lc.of sc_L_word.nd rfl rfl (.inl rfl) a_L_word_0); (case s => rfl))
  | ((with_reducible refine gx_name (i := 0) (x := "_law_work") ?h ?q); (case h => exact Lc.of sc_L_word.nd rfl rfl (.inl rfl) a_L_word_0))
  | ((with_reducible refine sx_set (i := 1) (x := "e") ?h ?s ?q); (case h => exact Lc.of sc_L_word.nd rfl rfl (.inl rfl) a_L_word_1); (case s => rfl))
  | ((with_reducible refine gx_name (i := 1) (x := "e") ?h ?q); (case h => exact Lc.of sc_L_word.nd rfl rfl (.inl rfl) a_L_word_1))
  | ((with_reducible refine sx_set (i := 2) (x := "_law_kinds") ?h ?s ?q); (case h => exact Lc.of sc_L_word.nd rfl rfl (.inl rfl) a_L_word_2); (case s => rfl))
  | ((with_reducible refine gx_name (i := 2) (x := "_law_kinds") ?h ?q); (case h => exact Lc.of sc_L_word.nd rfl rfl (.inl rfl) a_L_word_2))
  | ((with_reducible refine sx_set (i := 3) (x := "_law_words") ?h ?s ?q); (case h => exact Lc.of sc_L_word.nd rfl rfl (.inl rfl) a_L_word_3); (case s => rfl))
  | ((with_reducible refine gx_name (i := 3) (x := "_law_words") ?h ?q); (case h => exact Lc.of sc_L_word.nd rfl rfl (.inl rfl) a_L_word_3))
  | ((with_reducible refine sx_set (i := 4) (x := "_law_word_here") ?h ?s ?q); (case h => exact Lc.of sc_L_word.nd rfl rfl (.inl rfl) a_L_word_4); (case s => rfl))
  | ((with_reducible refine gx_name (i := 4) (x := "_law_word_here") ?h ?q); (case h => exact Lc.of sc_L_word.nd rfl rfl (.inl rfl) a_L_word_4)))
local macro_rules | `(tactic| wtm_at "vb L_word") => `(tactic| first
  | ((with_reducible refine' ex_var (i := 0) (x := "_law_work") ?h ?g ?q); (case h => exact At.b rfl (by first | exact Or.inl rfl | exact Or.inr (Or.inl rfl) | exact Or.inr (Or.inr rfl))); (case g => rfl))
  | ((with_reducible refine' ex_var (i := 1) (x := "e") ?h ?g ?q); (case h => exact At.b rfl (by first | exact Or.inl rfl | exact Or.inr (Or.inl rfl) | exact Or.inr (Or.inr rfl))); (case g => rfl))
  | ((with_reducible refine' ex_var (i := 2) (x := "_law_kinds") ?h ?g ?q); (case h => exact At.b rfl (by first | exact Or.inl rfl | exact Or.inr (Or.inl rfl) | exact Or.inr (Or.inr rfl))); (case g => rfl))
  | ((with_reducible refine' ex_var (i := 3) (x := "_law_words") ?h ?g ?q); (case h => exact At.b rfl (by first | exact Or.inl rfl | exact Or.inr (Or.inl rfl) | exact Or.inr (Or.inr rfl))); (case g => rfl))
  | ((with_reducible refine' ex_var (i := 4) (x := "_law_word_here") ?h ?g ?q); (case h => exact At.b rfl (by first | exact Or.inl rfl | exact Or.inr (Or.inl rfl) | exact Or.inr (Or.inr rfl))); (case g => rfl)))
local macro_rules | `(tactic| wtm_at "w L_word") => `(tactic| repeat (first | wtm_at "v L_word" | wtm_at "e" | wtm_at "ei" | wtm_at "c"))
local macro_rules | `(tactic| wtm_at "wb L_word") => `(tactic| repeat (first | wtm_at "vb L_word" | wtm_at "e" | wtm_at "cb"))
local macro_rules | `(tactic| wtm_at "g L_word") => `(tactic| repeat (first | wtm_at "v L_word" | wtm_at "e2" | wtm_at "e" | wtm_at "ei" | wtm_at "c"))
local macro_rules | `(tactic| wtm_at "gb L_word") => `(tactic| repeat (first | wtm_at "vb L_word" | wtm_at "e2" | wtm_at "e" | wtm_at "cb"))
local macro_rules | `(tactic| wtm_at "h L_word") => `(tactic| repeat (first | wtm_at "v L_word" | wtm_at "e2" | wtm_at "e" | wtm_at "c"))
local macro_rules | `(tactic| wtm_at "gx L_word") => `(tactic| repeat (first | wtm_at "v L_word" | wtm_at "e2" | wtm_at "e" | wtm_at "ei" | wtm_at "cx"))
local macro_rules | `(tactic| wtm_at "hx L_word") => `(tactic| repeat (first | wtm_at "v L_word" | wtm_at "e2" | wtm_at "e" | wtm_at "cx"))
local macro_rules | `(tactic| wtm_at "gy L_word") => `(tactic| repeat (first | wtm_at "vb L_word" | wtm_at "e2" | wtm_at "e" | wtm_at "cx"))
local macro_rules | `(tactic| wtm_at "hx1 L_word") => `(tactic| first | wtm_at "v L_word" | wtm_at "e2" | wtm_at "e" | wtm_at "cx")
abbrev X_L_word (P : Program) (w : World) (K : PySem.W.Frag) (mg : Str → Option Value) (base : Heap) (f : Addr) (cdv : Value) (A : Around) (outer : List Env) (s : Shared) (H : Hp) (E : XK) : Cx := (cxOf CX0 P w K mg base n_L_word "_law_word" (defScope s_L_word) f cdv A outer s H E).nox
abbrev s_L_any : Stmt := top 25
abbrev n_L_any : List Str := ["_law_row", "_law_most", "_law_words", "_law_many", "_law_k"]
theorem sc_L_any : FnScope n_L_any ["_law_row", "_law_most"] (defScope s_L_any) := ⟨rfl, rfl, rfl, by decide +kernel, rfl, by decide +kernel, by decide +kernel⟩
theorem a_L_any_0 : atB n_L_any (defScope s_L_any) 0 "_law_row" = true := by decide +kernel
theorem a_L_any_1 : atB n_L_any (defScope s_L_any) 1 "_law_most" = true := by decide +kernel
theorem a_L_any_2 : atB n_L_any (defScope s_L_any) 2 "_law_words" = true := by decide +kernel
theorem a_L_any_3 : atB n_L_any (defScope s_L_any) 3 "_law_many" = true := by decide +kernel
local macro_rules | `(tactic| wtm_at "v L_any") => `(tactic| first
  | ((with_reducible refine' ex_var (i := 0) (x := "_law_row") ?h ?g ?q); (case h => exact At.of rfl rfl a_L_any_0); (case g => rfl))
  | ((with_reducible refine' ex_var (i := 1) (x := "_law_most") ?h ?g ?q); (case h => exact At.of rfl rfl a_L_any_1); (case g => rfl))
  | ((with_reducible refine' ex_var (i := 2) (x := "_law_words") ?h ?g ?q); (case h => exact At.of rfl rfl a_L_any_2); (case g => rfl))
  | ((with_reducible refine' ex_var (i := 3) (x := "_law_many") ?h ?g ?q); (case h => exact At.of rfl rfl a_L_any_3); (case g => rfl))
  | ((with_reducible refine sx_set (i := 0) (x := "_law_row") ?h ?s ?q); (case h => exact Lc.of sc_L_any.nd rfl rfl (.inl rfl) a_L_any_0); (case s => rfl))
  | ((with_reducible refine gx_name (i := 0) (x := "_law_row") ?h ?q); (case h => exact Lc.of sc_L_any.nd rfl rfl (.inl rfl) a_L_any_0))
  | ((with_reducible refine sx_set (i := 1) (x := "_law_most") ?h ?s ?q); (case h => exact Lc.of sc_L_any.nd rfl rfl (.inl rfl) a_L_any_1); (case s => rfl))
  | ((with_reducible refine gx_name (i := 1) (x := "_law_most") ?h ?q); (case h => exact Lc.of sc_L_any.nd rfl rfl (.inl rfl) a_L_any_1))
  | ((with_reducible refine sx_set (i := 2) (x := "_law_words") ?h ?s ?q); (case h => exact Lc.of sc_L_any.nd rfl rfl (.inl rfl) a_L_any_2); (case s => rfl))
  | ((with_reducible refine gx_name (i := 2) (x := "_law_words") ?h ?q); (case h => exact Lc.of sc_L_any.nd rfl rfl (.inl rfl) a_L_any_2))
  | ((with_reducible refine sx_set (i := 3) (x := "_law_many") ?h ?s ?q); (case h => exact Lc.of sc_L_any.nd rfl rfl (.inl rfl) a_L_any_3); (case s => rfl))
  | ((with_reducible refine gx_name (i := 3) (x := "_law_many") ?h ?q); (case h => exact Lc.of sc_L_any.nd rfl rfl (.inl rfl) a_L_any_3)))
local macro_rules | `(tactic| wtm_at "vb L_any") => `(tactic| first
  | ((with_reducible refine' ex_var (i := 0) (x := "_law_row") ?h ?g ?q); (case h => exact At.b rfl (by first | exact Or.inl rfl | exact Or.inr (Or.inl rfl) | exact Or.inr (Or.inr rfl))); (case g => rfl))
  | ((with_reducible refine' ex_var (i := 1) (x := "_law_most") ?h ?g ?q); (case h => exact At.b rfl (by first | exact Or.inl rfl | exact Or.inr (Or.inl rfl) | exact Or.inr (Or.inr rfl))); (case g => rfl))
  | ((with_reducible refine' ex_var (i := 2) (x := "_law_words") ?h ?g ?q); (case h => exact At.b rfl (by first | exact Or.inl rfl | exact Or.inr (Or.inl rfl) | exact Or.inr (Or.inr rfl))); (case g => rfl))
  | ((with_reducible refine' ex_var (i := 3) (x := "_law_many") ?h ?g ?q); (case h => exact At.b rfl (by first | exact Or.inl rfl | exact Or.inr (Or.inl rfl) | exact Or.inr (Or.inr rfl))); (case g => rfl))
  | ((with_reducible refine' ex_var (i := 4) (x := "_law_k") ?h ?g ?q); (case h => exact At.b rfl (by first | exact Or.inl rfl | exact Or.inr (Or.inl rfl) | exact Or.inr (Or.inr rfl))); (case g => rfl)))
local macro_rules | `(tactic| wtm_at "w L_any") => `(tactic| repeat (first | wtm_at "v L_any" | wtm_at "e" | wtm_at "ei" | wtm_at "c"))
local macro_rules | `(tactic| wtm_at "wb L_any") => `(tactic| repeat (first | wtm_at "vb L_any" | wtm_at "e" | wtm_at "cb"))
local macro_rules | `(tactic| wtm_at "g L_any") => `(tactic| repeat (first | wtm_at "v L_any" | wtm_at "e2" | wtm_at "e" | wtm_at "ei" | wtm_at "c"))
local macro_rules | `(tactic| wtm_at "gb L_any") => `(tactic| repeat (first | wtm_at "vb L_any" | wtm_at "e2" | wtm_at "e" | wtm_at "cb"))
local macro_rules | `(tactic| wtm_at "h L_any") => `(tactic| repeat (first | wtm_at "v L_any" | wtm_at "e2" | wtm_at "e" | wtm_at "c"))
local macro_rules | `(tactic| wtm_at "gx L_any") => `(tactic| repeat (first | wtm_at "v L_any" | wtm_at "e2" | wtm_at "e" | wtm_at "ei" | wtm_at "cx"))
local macro_rules | `(tactic| wtm_at "hx L_any") => `(tactic| repeat (first | wtm_at "v L_any" | wtm_at "e2" | wtm_at "e" | wtm_at "cx"))
local macro_rules | `(tactic| wtm_at "gy L_any") => `(tactic| repeat (first | wtm_at "vb L_any" | wtm_at "e2" | wtm_at "e" | wtm_at "cx"))
local macro_rules | `(tactic| wtm_at "hx1 L_any") => `(tactic| first | wtm_at "v L_any" | wtm_at "e2" | wtm_at "e" | wtm_at "cx")
local macro_rules | `(tactic| wtm_at "lc L_any 0") => `(tactic| refine' ex_lc (own := [("_law_k", 4)]) (t := .inl 4)  rfl sc_L_any.nd (blkOk_by (N := n_L_any) (sc := defScope s_L_any) (by decide +kernel)) (by decide) (fun _ _ _ _ _ => pg_name (i := 4) sc_L_any.nd rfl (Or.inl rfl)) (fun _ => rfl) ?_)
local macro_rules | `(tactic| wtm_at "lcM L_any 0") => `(tactic| refine' ex_lcM (own := [("_law_k", 4)]) (t := .inl 4)  rfl sc_L_any.nd (blkOk_by (N := n_L_any) (sc := defScope s_L_any) (by decide +kernel)) (by decide) (fun _ _ _ _ _ => pg_name (i := 4) sc_L_any.nd rfl (Or.inl rfl)) (fun _ => rfl) ?_)
local macro_rules | `(tactic| wtm_at "lcp L_any 0") => `(tactic| refine' ex_lcp (own := [("_law_k", 4)]) (t := .inl 4) ?f rfl sc_L_any.nd (blkOk_by (N := n_L_any) (sc := defScope s_L_any) (by decide +kernel)) (by decide) (fun _ _ _ _ _ => pg_name (i := 4) sc_L_any.nd rfl (Or.inl rfl)) (fun _ => rfl) ?_)
local macro_rules | `(tactic| wtm_at "lcpM L_any 0") => `(tactic| refine' ex_lcpM (own := [("_law_k", 4)]) (t := .inl 4) ?f rfl sc_L_any.nd (blkOk_by (N := n_L_any) (sc := defScope s_L_any) (by decide +kernel)) (by decide) (fun _ _ _ _ _ => pg_name (i := 4) sc_L_any.nd rfl (Or.inl rfl)) (fun _ => rfl) ?_)
abbrev X_L_any (P : Program) (w : World) (K : PySem.W.Frag) (mg : Str → Option Value) (base : Heap) (f : Addr) (cdv : Value) (A : Around) (outer : List Env) (s : Shared) (H : Hp) (E : XK) : Cx := (cxOf CX0 P w K mg base n_L_any "_law_any" (defScope s_L_any) f cdv A outer s H E).nox
abbrev s_L_read : Stmt := top 26
abbrev n_L_read : List Str := ["_law_line", "_law_words", "_law_number"]
theorem sc_L_read : FnScope n_L_read ["_law_line"] (defScope s_L_read) := ⟨rfl, rfl, rfl, by decide +kernel, rfl, by decide +kernel, by decide +kernel⟩
theorem a_L_read_0 : atB n_L_read (defScope s_L_read) 0 "_law_line" = true := by decide +kernel
theorem a_L_read_1 : atB n_L_read (defScope s_L_read) 1 "_law_words" = true := by decide +kernel
local macro_rules | `(tactic| wtm_at "v L_read") => `(tactic| first
  | ((with_reducible refine' ex_var (i := 0) (x := "_law_line") ?h ?g ?q); (case h => exact At.of rfl rfl a_L_read_0); (case g => rfl))
  | ((with_reducible refine' ex_var (i := 1) (x := "_law_words") ?h ?g ?q); (case h => exact At.of rfl rfl a_L_read_1); (case g => rfl))
  | ((with_reducible refine sx_set (i := 0) (x := "_law_line") ?h ?s ?q); (case h => exact Lc.of sc_L_read.nd rfl rfl (.inl rfl) a_L_read_0); (case s => rfl))
  | ((with_reducible refine gx_name (i := 0) (x := "_law_line") ?h ?q); (case h => exact Lc.of sc_L_read.nd rfl rfl (.inl rfl) a_L_read_0))
  | ((with_reducible refine sx_set (i := 1) (x := "_law_words") ?h ?s ?q); (case h => exact Lc.of sc_L_read.nd rfl rfl (.inl rfl) a_L_read_1); (case s => rfl))
  | ((with_reducible refine gx_name (i := 1) (x := "_law_words") ?h ?q); (case h => exact Lc.of sc_L_read.nd rfl rfl (.inl rfl) a_L_read_1)))
local macro_rules | `(tactic| wtm_at "vb L_read") => `(tactic| first
  | ((with_reducible refine' ex_var (i := 0) (x := "_law_line") ?h ?g ?q); (case h => exact At.b rfl (by first | exact Or.inl rfl | exact Or.inr (Or.inl rfl) | exact Or.inr (Or.inr rfl))); (case g => rfl))
  | ((with_reducible refine' ex_var (i := 1) (x := "_law_words") ?h ?g ?q); (case h => exact At.b rfl (by first | exact Or.inl rfl | exact Or.inr (Or.inl rfl) | exact Or.inr (Or.inr rfl))); (case g => rfl))
  | ((with_reducible refine' ex_var (i := 2) (x := "_law_number") ?h ?g ?q); (case h => exact At.b rfl (by first | exact Or.inl rfl | exact Or.inr (Or.inl rfl) | exact Or.inr (Or.inr rfl))); (case g => rfl)))
local macro_rules | `(tactic| wtm_at "w L_read") => `(tactic| repeat (first | wtm_at "v L_read" | wtm_at "e" | wtm_at "ei" | wtm_at "c"))
local macro_rules | `(tactic| wtm_at "wb L_read") => `(tactic| repeat (first | wtm_at "vb L_read" | wtm_at "e" | wtm_at "cb"))
local macro_rules | `(tactic| wtm_at "g L_read") => `(tactic| repeat (first | wtm_at "v L_read" | wtm_at "e2" | wtm_at "e" | wtm_at "ei" | wtm_at "c"))
local macro_rules | `(tactic| wtm_at "gb L_read") => `(tactic| repeat (first | wtm_at "vb L_read" | wtm_at "e2" | wtm_at "e" | wtm_at "cb"))
local macro_rules | `(tactic| wtm_at "h L_read") => `(tactic| repeat (first | wtm_at "v L_read" | wtm_at "e2" | wtm_at "e" | wtm_at "c"))
local macro_rules | `(tactic| wtm_at "gx L_read") => `(tactic| repeat (first | wtm_at "v L_read" | wtm_at "e2" | wtm_at "e" | wtm_at "ei" | wtm_at "cx"))
local macro_rules | `(tactic| wtm_at "hx L_read") => `(tactic| repeat (first | wtm_at "v L_read" | wtm_at "e2" | wtm_at "e" | wtm_at "cx"))
local macro_rules | `(tactic| wtm_at "gy L_read") => `(tactic| repeat (first | wtm_at "vb L_read" | wtm_at "e2" | wtm_at "e" | wtm_at "cx"))
local macro_rules | `(tactic| wtm_at "hx1 L_read") => `(tactic| first | wtm_at "v L_read" | wtm_at "e2" | wtm_at "e" | wtm_at "cx")
local macro_rules | `(tactic| wtm_at "lc L_read 0") => `(tactic| refine' ex_lc (own := [("_law_number", 2)]) (t := .inl 2)  rfl sc_L_read.nd (blkOk_by (N := n_L_read) (sc := defScope s_L_read) (by decide +kernel)) (by decide) (fun _ _ _ _ _ => pg_name (i := 2) sc_L_read.nd rfl (Or.inl rfl)) (fun _ => rfl) ?_)
local macro_rules | `(tactic| wtm_at "lcM L_read 0") => `(tactic| refine' ex_lcM (own := [("_law_number", 2)]) (t := .inl 2)  rfl sc_L_read.nd (blkOk_by (N := n_L_read) (sc := defScope s_L_read) (by decide +kernel)) (by decide) (fun _ _ _ _ _ => pg_name (i := 2) sc_L_read.nd rfl (Or.inl rfl)) (fun _ => rfl) ?_)
local macro_rules | `(tactic| wtm_at "lcp L_read 0") => `(tactic| refine' ex_lcp (own := [("_law_number", 2)]) (t := .inl 2) ?f rfl sc_L_read.nd (blkOk_by (N := n_L_read) (sc := defScope s_L_read) (by decide +kernel)) (by decide) (fun _ _ _ _ _ => pg_name (i := 2) sc_L_read.nd rfl (Or.inl rfl)) (fun _ => rfl) ?_)
local macro_rules | `(tactic| wtm_at "lcpM L_read 0") => `(tactic| refine' ex_lcpM (own := [("_law_number", 2)]) (t := .inl 2) ?f rfl sc_L_read.nd (blkOk_by (N := n_L_read) (sc := defScope s_L_read) (by decide +kernel)) (by decide) (fun _ _ _ _ _ => pg_name (i := 2) sc_L_read.nd rfl (Or.inl rfl)) (fun _ => rfl) ?_)
abbrev X_L_read (P : Program) (w : World) (K : PySem.W.Frag) (mg : Str → Option Value) (base : Heap) (f : Addr) (cdv : Value) (A : Around) (outer : List Env) (s : Shared) (H : Hp) (E : XK) : Cx := (cxOf CX0 P w K mg base n_L_read "_law_read" (defScope s_L_read) f cdv A outer s H E).nox
abbrev s_L_spoilt : Stmt := top 27
abbrev n_L_spoilt : List Str := ["_law_row", "_law_text", "_law_way", "_law_at", "_law_signs", "_law_sign", "_law_lines", "_law_k", "_law_words", "_law_j", "_law_odd"]
theorem sc_L_spoilt : FnScope n_L_spoilt ["_law_row", "_law_text"] (defScope s_L_spoilt) := ⟨rfl, rfl, rfl, by decide +kernel, rfl, by decide +kernel, by decide +kernel⟩
theorem a_L_spoilt_0 : atB n_L_spoilt (defScope s_L_spoilt) 0 "_law_row" = true := by decide +kernel
theorem a_L_spoilt_1 : atB n_L_spoilt (defScope s_L_spoilt) 1 "_law_text" = true := by decide +kernel
theorem a_L_spoilt_2 : atB n_L_spoilt (defScope s_L_spoilt) 2 "_law_way" = true := by decide +kernel
theorem a_L_spoilt_3 : atB n_L_spoilt (defScope s_L_spoilt) 3 "_law_at" = true := by decide +kernel
theorem a_L_spoilt_4 : atB n_L_spoilt (defScope s_L_spoilt) 4 "_law_signs" = true := by decide +kernel
theorem a_L_spoilt_5 : atB n_L_spoilt (defScope s_L_spoilt) 5 "_law_sign" = true := by decide +kernel
theorem a_L_spoilt_6 : atB n_L_spoilt (defScope s_L_spoilt) 6 "_law_lines" = true := by decide +kernel
theorem a_L_spoilt_7 : atB n_L_spoilt (defScope s_L_spoilt) 7 "_law_k" = true := by decide +kernel
theorem a_L_spoilt_8 : atB n_L_spoilt (defScope s_L_spoilt) 8 "_law_words" = true := by decide +kernel
theorem a_L_spoilt_9 : atB n_L_spoilt (defScope s_L_spoilt) 9 "_law_j" = true := by decide +kernel
theorem a_L_spoilt_10 : atB n_L_spoilt (defScope s_L_spoilt) 10 "_law_odd" = true := by decide +kernel
local macro_rules | `(tactic| wtm_at "v L_spoilt") => `(tactic| first
  | ((with_reducible refine' ex_var (i := 0) (x := "_law_row") ?h ?g ?q); (case h => exact At.of rfl rfl a_L_spoilt_0); (case g => rfl))
  | ((with_reducible refine' ex_var (i := 1) (x := "_law_text") ?h ?g ?q); (case h => exact At.of rfl rfl a_L_spoilt_1); (case g => rfl))
  | ((with_reducible refine' ex_var (i := 2) (x := "_law_way") ?h ?g ?q); (case h => exact At.of rfl rfl a_L_spoilt_2); (case g => rfl))
  | ((with_reducible refine' ex_var (i := 3) (x := "_law_at") ?h ?g ?q); (case h => exact At.of rfl rfl a_L_spoilt_3); (case g => rfl))
  | ((with_reducible refine' ex_var (i := 4) (x := "_law_signs") ?h ?g ?q); (case h => exact At.of rfl rfl a_L_spoilt_4); (case g => rfl))
  | ((with_reducible refine' ex_var (i := 5) (x := "_law_sign") ?h ?g ?q); (case h => exact At.of rfl rfl a_L_spoilt_5); (case g => rfl))
  | ((with_reducible refine' ex_var (i := 6) (x := "_law_lines") ?h ?g ?q); (case h => exact At.of rfl rfl a_L_spoilt_6); (case g => rfl))
  | ((with_reducible refine' ex_var (i := 7) (x := "_law_k") ?h ?g ?q); (case h => exact At.of rfl rfl a_L_spoilt_7); (case g => rfl))
  | ((with_reducible refine' ex_var (i := 8) (x := "_law_words") ?h ?g ?q); (case h => exact At.of rfl rfl a_L_spoilt_8); (case g => rfl))
  | ((with_reducible refine' ex_var (i := 9) (x := "_law_j") ?h ?g ?q); (case h => exact At.of rfl rfl a_L_spoilt_9); (case g => rfl))
  | ((with_reducible refine' ex_var (i := 10) (x := "_law_odd") ?h ?g ?q); (case h => exact At.of rfl rfl a_L_spoilt_10); (case g => rfl))
  | ((with_reducible refine sx_set (i := 0) (x := "_law_row") ?h ?s ?q); (case h => exact Lc.of sc_L_spoilt.nd rfl rfl (.inl rfl) a_L_spoilt_0); (case s => rfl))
  | ((with_reducible refine gx_name (i := 0) (x := "_law_row") ?h ?q); (case h => exact Lc.of sc_L_spoilt.nd rfl rfl (.inl rfl) a_L_spoilt_0))
  | ((with_reducible refine sx_set (i := 1) (x := "_law_text") ?h ?s ?q); (case h => exact Lc.of sc_L_spoilt.nd rfl rfl (.inl rfl) a_L_spoilt_1); (case s => rfl))
  | ((with_reducible refine gx_name (i := 1) (x := "_law_text") ?h ?q); (case h => exact Lc.of sc_L_spoilt.nd rfl rfl (.inl rfl) a_L_spoilt_1))
  | ((with_reducible refine sx_set (i := 2) (x := "_law_way") ?h ?s ?q); (case h => exact Lc.of sc_L_spoilt.nd rfl rfl (.inl rfl) a_L_spoilt_2); (case s => rfl))
  | ((with_reducible refine gx_name (i := 2) (x := "_law_way") ?h ?q); (case h => exact Lc.of sc_L_spoilt.nd rfl rfl (.inl rfl) a_L_spoilt_2))
  | ((with_reducible refine sx_set (i := 3) (x := "_law_at") ?h ?s ?q); (case h => exact Lc.of sc_L_spoilt.nd rfl rfl (.inl rfl) a_L_spoilt_3); (case s => rfl))
  | ((with_reducible refine gx_name (i := 3) (x := "_law_at") ?h ?q); (case h => exact Lc.of sc_L_spoilt.nd rfl rfl (.inl rfl) a_L_spoilt_3))
  | ((with_reducible refine sx_set (i := 4) (x := "_law_signs") ?h ?s ?q); (case h => exact Lc.of sc_L_spoilt.nd rfl rfl (.inl rfl) a_L_spoilt_4); (case s => rfl))
  | ((with_reducible refine gx_name (i := 4) (x := "_law_signs") ?h ?q); (case h => exact Lc.of sc_L_spoilt.nd rfl rfl (.inl rfl) a_L_spoilt_4))
  | ((with_reducible refine sx_set (i := 5) (x := "_law_sign") ?h ?s ?q); (case h => exact Lc.of sc_L_spoilt.nd rfl rfl (.inl rfl) a_L_spoilt_5); (case s => rfl))
  | ((with_reducible refine gx_name (i := 5) (x := "_law_sign") ?h ?q); (case h => exact Lc.of sc_L_spoilt.nd rfl rfl (.inl rfl) a_L_spoilt_5))
  | ((with_reducible refine sx_set (i := 6) (x := "_law_lines") ?h ?s ?q); (case h => exact Lc.of sc_L_spoilt.nd rfl rfl (.inl rfl) a_L_spoilt_6); (case s => rfl))
  | ((with_reducible refine gx_name (i := 6) (x := "_law_lines") ?h ?q); (case h => exact Lc.of sc_L_spoilt.nd rfl rfl (.inl rfl) a_L_spoilt_6))
  | ((with_reducible refine sx_set (i := 7) (x := "_law_k") ?h ?s ?q); (case h => exact Lc.of sc_L_spoilt.nd rfl rfl (.inl rfl) a_L_spoilt_7); (case s => rfl))
  | ((with_reducible refine gx_name (i := 7) (x := "_law_k") ?h ?q); (case h => exact Lc.of sc_L_spoilt.nd rfl rfl (.inl rfl) a_L_spoilt_7))
  | ((with_reducible refine sx_set (i := 8) (x := "_law_words") ?h ?s ?q); (case h => exact Lc.of sc_L_spoilt.nd rfl rfl (.inl rfl) a_L_spoilt_8); (case s => rfl))
  | ((with_reducible refine gx_name (i := 8) (x := "_law_words") ?h ?q); (case h => exact Lc.of sc_L_spoilt.nd rfl rfl (.inl rfl) a_L_spoilt_8))
  | ((with_reducible refine sx_set (i := 9) (x := "_law_j") ?h ?s ?q); (case h => exact Lc.of sc_L_spoilt.nd rfl rfl (.inl rfl) a_L_spoilt_9); (case s => rfl))
  | ((with_reducible refine gx_name (i := 9) (x := "_law_j") ?h ?q); (case h => exact Lc.of sc_L_spoilt.nd rfl rfl (.inl rfl) a_L_spoilt_9))
  | ((with_reducible refine sx_set (i := 10) (x := "_law_odd") ?h ?s ?q); (case h => exact Lc.of sc_L_spoilt.nd rfl rfl (.inl rfl) a_L_spoilt_10); (case s => rfl))
  | ((with_reducible refine gx_name (i := 10) (x := "_law_odd") ?h ?q); (case h => exact Lc.of sc_L_spoilt.nd rfl rfl (.inl rfl) a_L_spoilt_10)))
local macro_rules | `(tactic| wtm_at "vb L_spoilt") => `(tactic| first
  | ((with_reducible refine' ex_var (i := 0) (x := "_law_row") ?h ?g ?q); (case h => exact At.b rfl (by first | exact Or.inl rfl | exact Or.inr (Or.inl rfl) | exact Or.inr (Or.inr rfl))); (case g => rfl))
  | ((with_reducible refine' ex_var (i := 1) (x := "_law_text") ?h ?g ?q); (case h => exact At.b rfl (by first | exact Or.inl rfl | exact Or.inr (Or.inl rfl) | exact Or.inr (Or.inr rfl))); (case g => rfl))
  | ((with_reducible refine' ex_var (i := 2) (x := "_law_way") ?h ?g ?q); (case h => exact At.b rfl (by first | exact Or.inl rfl | exact Or.inr (Or.inl rfl) | exact Or.inr (Or.inr rfl))); (case g => rfl))
  | ((with_reducible refine' ex_var (i := 3) (x := "_law_at") ?h ?g ?q); (case h => exact At.b rfl (by first | exact Or.inl rfl | exact Or.inr (Or.inl rfl) | exact Or.inr (Or.inr rfl))); (case g => rfl))
  | ((with_reducible refine' ex_var (i := 4) (x := "_law_signs") ?h ?g ?q); (case h => exact At.b rfl (by first | exact Or.inl rfl | exact Or.inr (Or.inl rfl) | exact Or.inr (Or.inr rfl))); (case g => rfl))
  | ((with_reducible refine' ex_var (i := 5) (x := "_law_sign") ?h ?g ?q); (case h => exact At.b rfl (by first | exact Or.inl rfl | exact Or.inr (Or.inl rfl) | exact Or.inr (Or.inr rfl))); (case g => rfl))
  | ((with_reducible refine' ex_var (i := 6) (x := "_law_lines") ?h ?g ?q); (case h => exact At.b rfl (by first | exact Or.inl rfl | exact Or.inr (Or.inl rfl) | exact Or.inr (Or.inr rfl))); (case g => rfl))
  | ((with_reducible refine' ex_var (i := 7) (x := "_law_k") ?h ?g ?q); (case h => exact At.b rfl (by first | exact Or.inl rfl | exact Or.inr (Or.inl rfl) | exact Or.inr (Or.inr rfl))); (case g => rfl))
  | ((with_reducible refine' ex_var (i := 8) (x := "_law_words") ?h ?g ?q); (case h => exact At.b rfl (by first | exact Or.inl rfl | exact Or.inr (Or.inl rfl) | exact Or.inr (Or.inr rfl))); (case g => rfl))
  | ((with_reducible refine' ex_var (i := 9) (x := "_law_j") ?h ?g ?q); (case h => exact At.b rfl (by first | exact Or.inl rfl | exact Or.inr (Or.inl rfl) | exact Or.inr (Or.inr rfl))); (case g => rfl))
  | ((with_reducible refine' ex_var (i := 10) (x := "_law_odd") ?h ?g ?q); (case h => exact At.b rfl (by first | exact Or.inl rfl | exact Or.inr (Or.inl rfl) | exact Or.inr (Or.inr rfl))); (case g => rfl)))
local macro_rules | `(tactic| wtm_at "w L_spoilt") => `(tactic| repeat (first | wtm_at "v L_spoilt" | wtm_at "e" | wtm_at "ei" | wtm_at "c"))
local macro_rules | `(tactic| wtm_at "wb L_spoilt") => `(tactic| repeat (first | wtm_at "vb L_spoilt" | wtm_at "e" | wtm_at "cb"))
local macro_rules | `(tactic| wtm_at "g L_spoilt") => `(tactic| repeat (first | wtm_at "v L_spoilt" | wtm_at "e2" | wtm_at "e" | wtm_at "ei" | wtm_at "c"))
local macro_rules | `(tactic| wtm_at "gb L_spoilt") => `(tactic| repeat (first | wtm_at "vb L_spoilt" | wtm_at "e2" | wtm_at "e" | wtm_at "cb"))
local macro_rules | `(tactic| wtm_at "h L_spoilt") => `(tactic| repeat (first | wtm_at "v L_spoilt" | wtm_at "e2" | wtm_at "e" | wtm_at "c"))
local macro_rules | `(tactic| wtm_at "gx L_spoilt") => `(tactic| repeat (first | wtm_at "v L_spoilt" | wtm_at "e2" | wtm_at "e" | wtm_at "ei" | wtm_at "cx"))
local macro_rules | `(tactic| wtm_at "hx L_spoilt") => `(tactic| repeat (first | wtm_at "v L_spoilt" | wtm_at "e2" | wtm_at "e" | wtm_at "cx"))
local macro_rules | `(tactic| wtm_at "gy L_spoilt") => `(tactic| repeat (first | wtm_at "vb L_spoilt" | wtm_at "e2" | wtm_at "e" | wtm_at "cx"))
local macro_rules | `(tactic| wtm_at "hx1 L_spoilt") => `(tactic| first | wtm_at "v L_spoilt" | wtm_at "e2" | wtm_at "e" | wtm_at "cx")
abbrev X_L_spoilt (P : Program) (w : World) (K : PySem.W.Frag) (mg : Str → Option Value) (base : Heap) (f : Addr) (cdv : Value) (A : Around) (outer : List Env) (s : Shared) (H : Hp) (E : XK) : Cx := (cxOf CX0 P w K mg base n_L_spoilt "_law_spoilt" (defScope s_L_spoilt) f cdv A outer s H E).nox
abbrev s_law : Stmt := top 28
abbrev n_law : List Str := ["_law_script", "_law_row", "_law_some", "_law_turn", "_law_text", "_law_change", "_law_found", "_law_bad", "_law_one", "_law_word_here", "_law_number", "_law_k", "_law_line"]
theorem sc_law : FnScope n_law ["_law_script"] (defScope s_law) := ⟨rfl, rfl, rfl, by decide +kernel, rfl, by decide +kernel, by decide +kernel⟩
theorem a_law_0 : atB n_law (defScope s_law) 0 "_law_script" = true := by decide +kernel
theorem a_law_1 : atB n_law (defScope s_law) 1 "_law_row" = true := by decide +kernel
theorem a_law_2 : atB n_law (defScope s_law) 2 "_law_some" = true := by decide +kernel
theorem a_law_3 : atB n_law (defScope s_law) 3 "_law_turn" = true := by decide +kernel
theorem a_law_4 : atB n_law (defScope s_law) 4 "_law_text" = true := by decide +kernel
theorem a_law_5 : atB n_law (defScope s_law) 5 "_law_change" = true := by decide +kernel
theorem a_law_6 : atB n_law (defScope s_law) 6 "_law_found" = true := by decide +kernel
theorem a_law_7 : atB n_law (defScope s_law) 7 "_law_bad" = true := by decide +kernel
theorem a_law_8 : atB n_law (defScope s_law) 8 "_law_one" = true := by decide +kernel
local macro_rules | `(tactic| wtm_at "v law") => `(tactic| first
  | ((with_reducible refine' ex_var (i := 0) (x := "_law_script") ?h ?g ?q); (case h => exact At.of rfl rfl a_law_0); (case g => rfl))
  | ((with_reducible refine' ex_var (i := 1) (x := "_law_row") ?h ?g ?q); (case h => exact At.of rfl rfl a_law_1); (case g => rfl))
  | ((with_reducible refine' ex_var (i := 2) (x := "_law_some") ?h ?g ?q); (case h => exact At.of rfl rfl a_law_2); (case g => rfl))
  | ((with_reducible refine' ex_var (i := 3) (x := "_law_turn") ?h ?g ?q); (case h => exact At.of rfl rfl a_law_3); (case g => rfl))
  | ((with_reducible refine' ex_var (i := 4) (x := "_law_text") ?h ?g ?q); (case h => exact At.of rfl rfl a_law_4); (case g => rfl))
  | ((with_reducible refine' ex_var (i := 5) (x := "_law_change") ?h ?g ?q); (case h => exact At.of rfl rfl a_law_5); (case g => rfl))
  | ((with_reducible refine' ex_var (i := 6) (x := "_law_found") ?h ?g ?q); (case h => exact At.of rfl rfl a_law_6); (case g => rfl))
  | ((with_reducible refine' ex_var (i := 7) (x := "_law_bad") ?h ?g ?q); (case h => exact At.of rfl rfl a_law_7); (case g => rfl))
  | ((with_reducible refine' ex_var (i := 8) (x := "_law_one") ?h ?g ?q); (case h => exact At.of rfl rfl a_law_8); (case g => rfl))
  | ((with_reducible refine sx_set (i := 0) (x := "_law_script") ?h ?s ?q); (case h => exact Lc.of sc_law.nd rfl rfl (.inl rfl) a_law_0); (case s => rfl))
  | ((with_reducible refine gx_name (i := 0) (x := "_law_script") ?h ?q); (case h => exact Lc.of sc_law.nd rfl rfl (.inl rfl) a_law_0))
  | ((with_reducible refine sx_set (i := 1) (x := "_law_row") ?h ?s ?q); (case h => exact Lc.of sc_law.nd rfl rfl (.inl rfl) a_law_1); (case s => rfl))
  | ((with_reducible refine gx_name (i := 1) (x := "_law_row") ?h ?q); (case h => exact Lc.of sc_law.nd rfl rfl (.inl rfl) a_law_1))
  | ((with_reducible refine sx_set (i := 2) (x := "_law_some") ?h ?s ?q); (case h => exact Lc.of sc_law.nd rfl rfl (.inl rfl) a_law_2); (case s => rfl))
  | ((with_reducible refine gx_name (i := 2) (x := "_law_some") ?h ?q); (case h => exact Lc.of sc_law.nd rfl rfl (.inl rfl) a_law_2))
  | ((with_reducible refine sx_set (i := 3) (x := "_law_turn") ?h ?s ?q); (case h => exact Lc.of sc_law.nd rfl rfl (.inl rfl) a_law_3); (case s => rfl))
  | ((with_reducible refine gx_name (i := 3) (x := "_law_turn") ?h ?q); (case h => exact Lc.of sc_law.nd rfl rfl (.inl rfl) a_law_3))
  | ((with_reducible refine sx_set (i := 4) (x := "_law_text") ?h ?s ?q); (case h => exact Lc.of sc_law.nd rfl rfl (.inl rfl) a_law_4); (case s => rfl))
  | ((with_reducible refine gx_name (i := 4) (x := "_law_text") ?h ?q); (case h => exact Lc.of sc_law.nd rfl rfl (.inl rfl) a_law_4))
  | ((with_reducible refine sx_set (i := 5) (x := "_law_change") ?h ?s ?q); (case h => exact Lc.of sc_law.nd rfl rfl (.inl rfl) a_law_5); (case s => rfl))
  | ((with_reducible refine gx_name (i := 5) (x := "_law_change") ?h ?q); (case h => exact Lc.of sc_law.nd rfl rfl (.inl rfl) a_law_5))
  | ((with_reducible refine sx_set (i := 6) (x := "_law_found") ?h ?s ?q); (case h => exact Lc.of sc_law.nd rfl rfl (.inl rfl) a_law_6); (case s => rfl))
  | ((with_reducible refine gx_name (i := 6) (x := "_law_found") ?h ?q); (case h => exact Lc.of sc_law.nd rfl rfl (.inl rfl) a_law_6))
  | ((with_reducible refine sx_set (i := 7) (x := "_law_bad") ?h ?s ?q); (case h => exact Lc.of sc_law.nd rfl rfl (.inl rfl) a_law_7); (case s => rfl))
  | ((with_reducible refine gx_name (i := 7) (x := "_law_bad") ?h ?q); (case h => exact Lc.of sc_law.nd rfl rfl (.inl rfl) a_law_7))
  | ((with_reducible refine sx_set (i := 8) (x := "_law_one") ?h ?s ?q); (case h => exact Lc.of sc_law.nd rfl rfl (.inl rfl) a_law_8); (case s => rfl))
  | ((with_reducible refine gx_name (i := 8) (x := "_law_one") ?h ?q); (case h => exact Lc.of sc_law.nd rfl rfl (.inl rfl) a_law_8)))
local macro_rules | `(tactic| wtm_at "vb law") => `(tactic| first
  | ((with_reducible refine' ex_var (i := 0) (x := "_law_script") ?h ?g ?q); (case h => exact At.b rfl (by first | exact Or.inl rfl | exact Or.inr (Or.inl rfl) | exact Or.inr (Or.inr rfl))); (case g => rfl))
  | ((with_reducible refine' ex_var (i := 1) (x := "_law_row") ?h ?g ?q); (case h => exact At.b rfl (by first | exact Or.inl rfl | exact Or.inr (Or.inl rfl) | exact Or.inr (Or.inr rfl))); (case g => rfl))
  | ((with_reducible refine' ex_var (i := 2) (x := "_law_some") ?h ?g ?q); (case h => exact At.b rfl (by first | exact Or.inl rfl | exact Or.inr (Or.inl rfl) | exact Or.inr (Or.inr rfl))); (case g => rfl))
  | ((with_reducible refine' ex_var (i := 3) (x := "_law_turn") ?h ?g ?q); (case h => exact At.b rfl (by first | exact Or.inl rfl | exact Or.inr (Or.inl rfl) | exact Or.inr (Or.inr rfl))); (case g => rfl))
  | ((with_reducible refine' ex_var (i := 4) (x := "_law_text") ?h ?g ?q); (case h => exact At.b rfl (by first | exact Or.inl rfl | exact Or.inr (Or.inl rfl) | exact Or.inr (Or.inr rfl))); (case g => rfl))
  | ((with_reducible refine' ex_var (i := 5) (x := "_law_change") ?h ?g ?q); (case h => exact At.b rfl (by first | exact Or.inl rfl | exact Or.inr (Or.inl rfl) | exact Or.inr (Or.inr rfl))); (case g => rfl))
  | ((with_reducible refine' ex_var (i := 6) (x := "_law_found") ?h ?g ?q); (case h => exact At.b rfl (by first | exact Or.inl rfl | exact Or.inr (Or.inl rfl) | exact Or.inr (Or.inr rfl))); (case g => rfl))
  | ((with_reducible refine' ex_var (i := 7) (x := "_law_bad") ?h ?g ?q); (case h => exact At.b rfl (by first | exact Or.inl rfl | exact Or.inr (Or.inl rfl) | exact Or.inr (Or.inr rfl))); (case g => rfl))
  | ((with_reducible refine' ex_var (i := 8) (x := "_law_one") ?h ?g ?q); (case h => exact At.b rfl (by first | exact Or.inl rfl | exact Or.inr (Or.inl rfl) | exact Or.inr (Or.inr rfl))); (case g => rfl))
  | ((with_reducible refine' ex_var (i := 9) (x := "_law_word_here") ?h ?g ?q); (case h => exact At.b rfl (by first | exact Or.inl rfl | exact Or.inr (Or.inl rfl) | exact Or.inr (Or.inr rfl))); (case g => rfl))
  | ((with_reducible refine' ex_var (i := 10) (x := "_law_number") ?h ?g ?q); (case h => exact At.b rfl (by first | exact Or.inl rfl | exact Or.inr (Or.inl rfl) | exact Or.inr (Or.inr rfl))); (case g => rfl))
  | ((with_reducible refine' ex_var (i := 11) (x := "_law_k") ?h ?g ?q); (case h => exact At.b rfl (by first | exact Or.inl rfl | exact Or.inr (Or.inl rfl) | exact Or.inr (Or.inr rfl))); (case g => rfl))
  | ((with_reducible refine' ex_var (i := 12) (x := "_law_line") ?h ?g ?q); (case h => exact At.b rfl (by first | exact Or.inl rfl | exact Or.inr (Or.inl rfl) | exact Or.inr (Or.inr rfl))); (case g => rfl)))
local macro_rules | `(tactic| wtm_at "w law") => `(tactic| repeat (first | wtm_at "v law" | wtm_at "e" | wtm_at "ei" | wtm_at "c"))
local macro_rules | `(tactic| wtm_at "wb law") => `(tactic| repeat (first | wtm_at "vb law" | wtm_at "e" | wtm_at "cb"))
local macro_rules | `(tactic| wtm_at "g law") => `(tactic| repeat (first | wtm_at "v law" | wtm_at "e2" | wtm_at "e" | wtm_at "ei" | wtm_at "c"))
local macro_rules | `(tactic| wtm_at "gb law") => `(tactic| repeat (first | wtm_at "vb law" | wtm_at "e2" | wtm_at "e" | wtm_at "cb"))
local macro_rules | `(tactic| wtm_at "h law") => `(tactic| repeat (first | wtm_at "v law" | wtm_at "e2" | wtm_at "e" | wtm_at "c"))
local macro_rules | `(tactic| wtm_at "gx law") => `(tactic| repeat (first | wtm_at "v law" | wtm_at "e2" | wtm_at "e" | wtm_at "ei" | wtm_at "cx"))
local macro_rules | `(tactic| wtm_at "hx law") => `(tactic| repeat (first | wtm_at "v law" | wtm_at "e2" | wtm_at "e" | wtm_at "cx"))
local macro_rules | `(tactic| wtm_at "gy law") => `(tactic| repeat (first | wtm_at "vb law" | wtm_at "e2" | wtm_at "e" | wtm_at "cx"))
local macro_rules | `(tactic| wtm_at "hx1 law") => `(tactic| first | wtm_at "v law" | wtm_at "e2" | wtm_at "e" | wtm_at "cx")
local macro_rules | `(tactic| wtm_at "lc law 0") => `(tactic| refine' ex_lc (own := [("_law_word_here", 9), ("_law_number", 10)]) (t := .inr [9, 10])  rfl sc_law.nd (blkOk_by (N := n_law) (sc := defScope s_law) (by decide +kernel)) (by decide) (fun _ _ _ _ _ => pg_tup rfl (pgs_cons (pg_name (i := 9) sc_law.nd rfl (Or.inl rfl)) (pgs_cons (pg_name (i := 10) sc_law.nd rfl (Or.inl rfl)) pgs_nil))) (fun _ => rfl) ?_)
local macro_rules | `(tactic| wtm_at "lcM law 0") => `(tactic| refine' ex_lcM (own := [("_law_word_here", 9), ("_law_number", 10)]) (t := .inr [9, 10])  rfl sc_law.nd (blkOk_by (N := n_law) (sc := defScope s_law) (by decide +kernel)) (by decide) (fun _ _ _ _ _ => pg_tup rfl (pgs_cons (pg_name (i := 9) sc_law.nd rfl (Or.inl rfl)) (pgs_cons (pg_name (i := 10) sc_law.nd rfl (Or.inl rfl)) pgs_nil))) (fun _ => rfl) ?_)
local macro_rules | `(tactic| wtm_at "lcp law 0") => `(tactic| refine' ex_lcp (own := [("_law_word_here", 9), ("_law_number", 10)]) (t := .inr [9, 10]) ?f rfl sc_law.nd (blkOk_by (N := n_law) (sc := defScope s_law) (by decide +kernel)) (by decide) (fun _ _ _ _ _ => pg_tup rfl (pgs_cons (pg_name (i := 9) sc_law.nd rfl (Or.inl rfl)) (pgs_cons (pg_name (i := 10) sc_law.nd rfl (Or.inl rfl)) pgs_nil))) (fun _ => rfl) ?_)
local macro_rules | `(tactic| wtm_at "lcpM law 0") => `(tactic| refine' ex_lcpM (own := [("_law_word_here", 9), ("_law_number", 10)]) (t := .inr [9, 10]) ?f rfl sc_law.nd (blkOk_by (N := n_law) (sc := defScope s_law) (by decide +kernel)) (by decide) (fun _ _ _ _ _ => pg_tup rfl (pgs_cons (pg_name (i := 9) sc_law.nd rfl (Or.inl rfl)) (pgs_cons (pg_name (i := 10) sc_law.nd rfl (Or.inl rfl)) pgs_nil))) (fun _ => rfl) ?_)
local macro_rules | `(tactic| wtm_at "lc law 1") => `(tactic| refine' ex_lc (own := [("_law_line", 12)]) (t := .inl 12)  rfl sc_law.nd (blkOk_by (N := n_law) (sc := defScope s_law) (by decide +kernel)) (by decide) (fun _ _ _ _ _ => pg_name (i := 12) sc_law.nd rfl (Or.inl rfl)) (fun _ => rfl) ?_)
local macro_rules | `(tactic| wtm_at "lcM law 1") => `(tactic| refine' ex_lcM (own := [("_law_line", 12)]) (t := .inl 12)  rfl sc_law.nd (blkOk_by (N := n_law) (sc := defScope s_law) (by decide +kernel)) (by decide) (fun _ _ _ _ _ => pg_name (i := 12) sc_law.nd rfl (Or.inl rfl)) (fun _ => rfl) ?_)
local macro_rules | `(tactic| wtm_at "lcp law 1") => `(tactic| refine' ex_lcp (own := [("_law_line", 12)]) (t := .inl 12) ?f rfl sc_law.nd (blkOk_by (N := n_law) (sc := defScope s_law) (by decide +kernel)) (by decide) (fun _ _ _ _ _ => pg_name (i := 12) sc_law.nd rfl (Or.inl rfl)) (fun _ => rfl) ?_)
local macro_rules | `(tactic| wtm_at "lcpM law 1") => `(tactic| refine' ex_lcpM (own := [("_law_line", 12)]) (t := .inl 12) ?f rfl sc_law.nd (blkOk_by (N := n_law) (sc := defScope s_law) (by decide +kernel)) (by decide) (fun _ _ _ _ _ => pg_name (i := 12) sc_law.nd rfl (Or.inl rfl)) (fun _ => rfl) ?_)
local macro_rules | `(tactic| wtm_at "lc law 2") => `(tactic| refine' ex_lc (own := [("_law_k", 11)]) (t := .inl 11)  rfl sc_law.nd (blkOk_by (N := n_law) (sc := defScope s_law) (by decide +kernel)) (by decide) (fun _ _ _ _ _ => pg_name (i := 11) sc_law.nd rfl (Or.inl rfl)) (fun _ => rfl) ?_)
local macro_rules | `(tactic| wtm_at "lcM law 2") => `(tactic| refine' ex_lcM (own := [("_law_k", 11)]) (t := .inl 11)  rfl sc_law.nd (blkOk_by (N := n_law) (sc := defScope s_law) (by decide +kernel)) (by decide) (fun _ _ _ _ _ => pg_name (i := 11) sc_law.nd rfl (Or.inl rfl)) (fun _ => rfl) ?_)
local macro_rules | `(tactic| wtm_at "lcp law 2") => `(tactic| refine' ex_lcp (own := [("_law_k", 11)]) (t := .inl 11) ?f rfl sc_law.nd (blkOk_by (N := n_law) (sc := defScope s_law) (by decide +kernel)) (by decide) (fun _ _ _ _ _ => pg_name (i := 11) sc_law.nd rfl (Or.inl rfl)) (fun _ => rfl) ?_)
local macro_rules | `(tactic| wtm_at "lcpM law 2") => `(tactic| refine' ex_lcpM (own := [("_law_k", 11)]) (t := .inl 11) ?f rfl sc_law.nd (blkOk_by (N := n_law) (sc := defScope s_law) (by decide +kernel)) (by decide) (fun _ _ _ _ _ => pg_name (i := 11) sc_law.nd rfl (Or.inl rfl)) (fun _ => rfl) ?_)
local macro_rules | `(tactic| wtm_at "slc law 2") => `(tactic| refine' sx_setLc (i := 7) (own := [("_law_k", 11)]) (t := .inl 11)  rfl sc_law.nd rfl rfl (sw_true rfl rfl rfl (by decide +kernel)) (blkOk_by (N := n_law) (sc := defScope s_law) (by decide +kernel)) (by decide) (fun _ _ _ _ _ => pg_name (i := 11) sc_law.nd rfl (Or.inl rfl)) (fun _ => rfl) ?_)
local macro_rules | `(tactic| wtm_at "slcM law 2") => `(tactic| refine' sx_setLcM (i := 7) (own := [("_law_k", 11)]) (t := .inl 11)  rfl sc_law.nd rfl rfl (sw_true rfl rfl rfl (by decide +kernel)) (blkOk_by (N := n_law) (sc := defScope s_law) (by decide +kernel)) (by decide) (fun _ _ _ _ _ => pg_name (i := 11) sc_law.nd rfl (Or.inl rfl)) (fun _ => rfl) ?_)
local macro_rules | `(tactic| wtm_at "slcp law 2") => `(tactic| refine' sx_setLcp (i := 7) (own := [("_law_k", 11)]) (t := .inl 11) ?f rfl sc_law.nd rfl rfl (sw_true rfl rfl rfl (by decide +kernel)) (blkOk_by (N := n_law) (sc := defScope s_law) (by decide +kernel)) (by decide) (fun _ _ _ _ _ => pg_name (i := 11) sc_law.nd rfl (Or.inl rfl)) (fun _ => rfl) ?_)
abbrev X_law (P : Program) (w : World) (K : PySem.W.Frag) (mg : Str → Option Value) (base : Heap) (f : Addr) (cdv : Value) (A : Around) (outer : List Env) (s : Shared) (H : Hp) (E : XK) : Cx := (cxOf CX0 P w K mg base n_law "law" (defScope s_law) f cdv A outer s H E).nox

/-! ### what is looked at of an error class -/
def kinds : List Str := ["BadBook", "BadLetters", "BadStep", "BadText", "BadDelay", "BadWindows", "NoCommand", "NoWindow", "NoLetter", "BadReport", "TooMany", "BadCount", "Over"]
/-- what is known of an error class by its name -/
structure ErrK (K : PySem.W.Frag) (cl : Str → Addr) (N : Str) : Prop where
  ec : ExcC K (cl N)
  ki : ∀ x ∈ kinds, PySem.W.kitOne K (.ref (cl N)) (.ref (cl x)) = some (decide (x = N))
  kv : PySem.W.kitOne K (.ref (cl N)) (.type "ValueError") = some true
  ex : PySem.W.exmOne K (.ref (cl N)) (.ref (cl "LinkError")) = some true
def errB (K : PySem.W.Frag) (N : Str) : Bool := excB K (He.ga K N) && (kinds.all (fun x => decide (PySem.W.kitOne K (.ref (He.ga K N)) (.ref (He.ga K x)) = some (decide (x = N)))) && (decide (PySem.W.kitOne K (.ref (He.ga K N)) (.type "ValueError") = some true) && decide (PySem.W.exmOne K (.ref (He.ga K N)) (.ref (He.ga K "LinkError")) = some true)))
theorem errB_ok {K : PySem.W.Frag} {N : Str} (h : errB K N = true) : ErrK K (He.ga K) N := by
  unfold errB at h
  obtain ⟨h1, h⟩ := Bool.and_eq_true_iff.mp h
  obtain ⟨h2, h⟩ := Bool.and_eq_true_iff.mp h
  obtain ⟨h3, h4⟩ := Bool.and_eq_true_iff.mp h
  exact ⟨excB_ok h1, fun x hx => of_decide_eq_true (List.all_eq_true.mp h2 x hx), of_decide_eq_true h3, of_decide_eq_true h4⟩

def hfn : List He.DefD := [defAt ("step_of", none) "step_of" "step_of" s_step_of,
  defAt ("read", none) "read" "read" s_read,
  defAt ("_law_read", none) "_law_read" "_law_read" s_L_read,
  defAt ("_law_taken", none) "_law_taken" "_law_taken" s_L_taken,
  defAt ("_law_any", none) "_law_any" "_law_any" s_L_any,
  defAt ("_law_spoilt", none) "_law_spoilt" "_law_spoilt" s_L_spoilt,
  defAt ("_law_alike", none) "_law_alike" "_law_alike" s_L_alike,
  defAt ("law", none) "law" "law" s_law,
  defAt ("_law_word", none) "_law_word" "_law_word" s_L_word,
  defAt ("BadText", some "__init__") "__init__" "BadText.__init__" s_BadText_init]
def hfa0 : List He.Fa := [.glo "step_of", .glo "read", .glo "_law_read", .glo "_law_taken", .glo "_law_any", .glo "_law_spoilt", .glo "_law_alike", .glo "law", .glo "_law_word", .glo "LinkError", .glo "BadBook", .glo "BadLetters", .glo "BadStep", .glo "BadText", .glo "BadDelay", .glo "BadWindows", .glo "NoCommand", .glo "NoWindow", .glo "NoLetter", .glo "BadReport", .glo "TooMany", .glo "BadCount", .glo "Over", .free "ValueError", .free "bool", .free "enumerate", .free "int", .free "isinstance", .free "len", .free "list"]
def hfa1 : List He.Fa := [.free "range", .free "str", .free "tuple", .str "FIGURES" "0123456789", .int "MOST_STEPS" 400, .glo "STEPS"]
def hfa : List He.Fa := hfa0 ++ hfa1
def hloose0 : List Str := ["__name__", "LinkError", "BadBook", "BadDelay", "BadWindows", "NoCommand", "NoWindow", "NoLetter", "BadLetters", "BadReport", "TooMany", "BadCount", "Over", "BadStep", "BadText", "MOST_STEPS", "STEPS", "FIGURES", "step_of", "read", "_law_taken", "_law_alike", "_law_word", "_law_any", "_law_read", "_law_spoilt"]
def hloose : List Str := hloose0
def hexB (K : PySem.W.Frag) : Bool := (He.tupB K "STEPS" ((["send", "call", "lose", "beat"] : List Str).map He.Dv.str)) && (upB K (He.ga K "LinkError")) && (errB K "BadText") && (oexB K (He.ga K "BadText")) && (xfB K (He.ga K "BadText")) && (iniB K (He.ga K "BadText") (He.fAd K ("BadText", some "__init__")) "row") && true
abbrev hR : PySem.W.OpenRow := PySem.W.OpenLaw.row PySem.Challenge.rw_faruplink_k17_texts_refused
abbrev hk : PySem.W.Hook := hookY 6 hfa hfn [("law", none)] hexB
def hob (s : PySem.W.SharedT) : He.AlX := obsY 6 hfa hfn [("law", none)] hexB (HandSHeadRun.getT s)
theorem hob_eq (s : PySem.W.SharedT) : hob s = hk.obs s.abs := obsY_eq (HandSHeadRun.getT_eq s)
set_option maxHeartbeats 0 in
theorem hrun (w : World) : HandSHeadRun.RunEq hR (PySem.W.view hR.prog [28]) hk hob 4000 hloose w := by
  intro os
  kernel_rfl
/-! ### steps as data -/
def stepWords : List Str := ["send", "call", "lose", "beat"]
def encS (s : Str × Int) : D := .tup [.str s.1, .int s.2]
def goodS (s : Str × Int) : Prop := s.1 ∈ stepWords ∧ 0 ≤ s.2 ∧ s.2 ≤ 99

/-! ### a step of words -/
def figs : List Nat := [48, 49, 50, 51, 52, 53, 54, 55, 56, 57]
/-- one or two figures, none needless -/
def isFig (x : Str) : Bool := match x.cps.toList with
  | [c] => decide (c ∈ figs)
  | [c, d] => decide (c ∈ figs) && decide (d ∈ figs) && !decide (c = 48)
  | _ => false
def figVal (x : Str) : Int := match x.cps.toList with
  | [c] => (c : Int) - 48
  | [c, d] => ((c : Int) - 48) * 10 + ((d : Int) - 48)
  | _ => 0
def stepOf (ws : List Str) : Option (Str × Int) := match ws with
  | [a, b] => if a ∈ stepWords ∧ isFig b = true then some (a, figVal b) else none
  | _ => none
def encO : Option (Str × Int) → D
  | none => .non
  | some s => encS s
theorem fig_int {x : Str} (h : isFig x = true) : PySem.intText? x = some (figVal x) := by
  obtain ⟨⟨l⟩⟩ := x
  have h1 : ∀ c ∈ figs, PySem.intText? ⟨⟨[c]⟩⟩ = some ((c : Int) - 48) := by decide +kernel
  have h2 : ∀ c ∈ figs, ∀ d ∈ figs, PySem.intText? ⟨⟨[c, d]⟩⟩ = some (((c : Int) - 48) * 10 + ((d : Int) - 48)) := by decide +kernel
  match l, h with
  | [c], h =>
    have hc : c ∈ figs := of_decide_eq_true h
    exact h1 c hc
  | [c, d], h =>
    obtain ⟨hh, _⟩ := Bool.and_eq_true_iff.mp (show (decide (c ∈ figs) && decide (d ∈ figs) && !decide (c = 48)) = true from h)
    obtain ⟨hc, hd⟩ := Bool.and_eq_true_iff.mp hh
    exact h2 c (of_decide_eq_true hc) d (of_decide_eq_true hd)
def spStepOf : DSp := fun ds M Q => ∃ ws : List Str, ds = [.lst (ws.map D.str)] ∧ (∀ x ∈ ws, x.length ≤ sizeLine ∧ PyData.strOk x = true) ∧ Q (encO (stepOf ws)) M
/-- what is no figure -/
def fSign : D → Option D
  | .str x => match x.cps.toList with
    | [c] => if c ∈ figs then none else some (.str x)
    | _ => none
  | _ => none
theorem signs_none (l : List Nat) : (l.map fun c => D.str ⟨#[c]⟩).filterMap fSign = (l.filter fun c => !decide (c ∈ figs)).map fun c => D.str ⟨#[c]⟩ := by
  induction l with
  | nil => rfl
  | cons c l ih =>
    rw [List.map_cons, List.filterMap_cons, List.filter_cons]
    by_cases h : c ∈ figs
    · have e : fSign (.str ⟨#[c]⟩) = none := by simp [fSign, h]
      rw [e]; simp [h, ih]
    · have e : fSign (.str ⟨#[c]⟩) = some (.str ⟨#[c]⟩) := by simp [fSign, h]
      rw [e]; simp [h, ih]
section
variable {P : Program} {w : World} {K : PySem.W.Frag} {mg : Str → Option Value} {base : Heap}
theorem ok_step_of {f : Addr} {fd : FuncData} (Fn : Fun K "step_of" "step_of" s_step_of f fd) (zl : mg "len" = none) (zi : mg "int" = none) (gS : Cst K mg "STEPS" (.tup (stepWords.map D.str))) (gF : Cst K mg "FIGURES" (.str "0123456789")) : FnOk P w K mg base CX0 1 f fd ["words"] (lift K spStepOf) := by
  refine fun_ok Fn sc_step_of (fun ds M Q ⟨_, e, _⟩ => by rw [e]; rfl) fun cdv A outer s H E hr ds M Q h B => ?_
  obtain ⟨ws, rfl, hz, k⟩ := h
  have b1 : Blt (X_step_of P w K mg base f cdv A outer s H E) "len" (.builtin "len") := ⟨rfl, zl, bb_len, by decide, by decide⟩
  have b2 : Blt (X_step_of P w K mg base f cdv A outer s H E) "int" (.type "int") := ⟨rfl, zi, bb_int, by decide, by decide⟩
  have g1 : Gb (X_step_of P w K mg base f cdv A outer s H E) "STEPS" (.tup (stepWords.map D.str)) := ⟨rfl, gS, by decide⟩
  have eF : ("0123456789" : Str).cps.toList = figs := by decide +kernel
  wtm_at "b"
  wtm_at "w step_of"
  match ws, hz with
  | [], _ =>
    wtm_at "w step_of"
    exact k
  | [a], _ =>
    wtm_at "w step_of"
    exact k
  | a :: b :: c :: r, _ =>
    refine ite_ndec (fun _ => ?_) (fun e => ?_)
    · wtm_at "w step_of"
      exact k
    · simp only [List.length_cons, List.length_map] at e
      omega
  | [a, b], hz =>
    have hb := (hz b (by simp)).1
    have hk := (hz b (by simp)).2
    wtm_at "w step_of"
    refine ix_l (d := .str a) rfl ?_
    wtm_at "w step_of"
    refine ox_notInT rfl flat_strs ?_
    rw [inD_str]
    refine asB_bl ?_
    refine ite_ndec (fun h1 => ?_) (fun h1 => ?_)
    · wtm_at "w step_of"
      have e : stepOf [a, b] = none := by simp [stepOf, h1]
      rw [e] at k
      exact k
    wtm_at "w step_of"
    refine ix_l (d := .str b) rfl ?_
    wtm_at "w step_of"
    refine bx_lenS hb ?_
    have bad : isFig b = false → Q .non M := fun z => by
      have e : stepOf [a, b] = none := by simp [stepOf, z]
      rw [e] at k
      exact k
    have bl : b.length = b.cps.toList.length := by simp [Str.length]
    wtm_at "w step_of"
    refine ite_dec (fun h2 => ?_) (fun h2 => ?_)
    · wtm_at "w step_of"
      refine ite_ndec (fun h3 => ?_) (fun h3 => ?_)
      · wtm_at "w step_of"
        refine bad ?_
        unfold isFig
        split
        · rename_i e; rw [bl, e] at h3; simp at h3
        · rename_i e; rw [bl, e] at h3; simp at h3
        · rfl
      · wtm_at "w step_of"
        wtm_at "lcp step_of 0"
        case f => exact fSign
        refine lx_str ?_
        wtm_at "w step_of"
        refine ix_l (d := .str b) rfl ?_
        refine ⟨_, rfl, ⟨?_, fun d M' hd hm => ?_⟩, ?_⟩
        · unfold signsD
          rw [List.length_map, ← bl]
          exact Nat.lt_of_le_of_lt (by omega : b.length ≤ 2) (by decide)
        · obtain ⟨c, hc, rfl⟩ := List.mem_map.mp hd
          refine fun s1 H1 C1 cl1 fp1 => ?_
          refine txs_one ?_
          wtm_at "wb step_of"
          refine ox_notInS ?_
          rw [eF]
          refine asB_bl ?_
          refine ite_ndec (fun h4 => fun s2 H2 C2 cl2 fp2 => ?_) (fun h4 => ?_)
          · wtm_at "wb step_of"
            exact ⟨rfl, by simp [fSign, h4]⟩
          · exact ⟨rfl, by simp [fSign, h4]⟩
        · unfold signsD
          rw [signs_none]
          wtm_at "w step_of"
          refine ox_ne0 (n := 0) hr.units (fun d hd => ?_) (by decide) ?_
          · obtain ⟨c, hc, rfl⟩ := List.mem_map.mp hd
            have hc2 : c ∈ b.cps.toList := (List.mem_filter.mp hc).1
            have hk2 : b.cps.all (· < 0x110000) = true := hk
            rw [Array.all_eq_true'] at hk2
            have hk3 := hk2 c (Array.mem_toList_iff.mp hc2)
            refine ⟨?_, by unfold D.dep; exact Nat.le_refl 0⟩
            unfold D.okE PyData.strOk
            simpa using hk3
          · rw [List.isEmpty_map]
            refine asB_bl ?_
            have len2 : b.cps.toList.length = 1 ∨ b.cps.toList.length = 2 := by rw [← bl]; omega
            have keep : (∃ c, b.cps.toList = [c]) ∨ ∃ c d, b.cps.toList = [c, d] := by
              match b.cps.toList, len2 with
              | [c], _ => exact .inl ⟨c, rfl⟩
              | [c, d], _ => exact .inr ⟨c, d, rfl⟩
            have ex0 : ∀ c r, b.cps.toList = c :: r → atI b.cps.toList 0 = some c := fun c r e => by rw [e]; exact atI_nat (xs := c :: r) (j := 0) rfl
            have e0 : (b = ("0" : Str)) ↔ b.cps.toList = [48] := by
              have z : ("0" : Str).cps.toList = [48] := by decide +kernel
              constructor
              · intro e; rw [e]; exact z
              · intro e; exact TL.ext_tl (e.trans z.symm)
            have good : isFig b = true → Q (.tup [.str a, .int (figVal b)]) M := fun z => by
              have e : stepOf [a, b] = some (a, figVal b) := by simp [stepOf, z, h1]
              rw [e] at k
              exact k
            have fin : isFig b = true → SXs B (X_step_of P w K mg base f cdv A outer s H E) ((defBody s_step_of).drop 2) (En.df Q) (startD n_step_of [.lst ([a, b].map D.str)]) M := fun z => by
              refine sxs_one ?_
              wtm_at "w step_of"
              refine ix_l (d := .str a) rfl ?_
              wtm_at "w step_of"
              refine ix_l (d := .str b) rfl ?_
              wtm_at "w step_of"
              refine bx_intS (fig_int z) (Nat.le_trans (by omega : b.length ≤ 2) (by decide)) ?_
              wtm_at "w step_of"
              exact ⟨by show 2 ≤ sizeLine; decide, good z⟩
            refine ite_nb (fun h5 => ?_) (fun h5 => ?_)
            · -- a sign that is no figure
              wtm_at "w step_of"
              refine bad ?_
              rcases keep with ⟨c, e⟩ | ⟨c, d, e⟩
              · rw [e] at h5
                unfold isFig
                rw [e]
                by_cases hc : c ∈ figs
                · simp [hc] at h5
                · simp [hc]
              · rw [e] at h5
                unfold isFig
                rw [e]
                by_cases hc : c ∈ figs
                · by_cases hd : d ∈ figs
                  · simp [hc, hd] at h5
                  · simp [hd]
                · simp [hc]
            · have all : ∀ c ∈ b.cps.toList, c ∈ figs := fun c hc => by
                have z := List.isEmpty_iff.mp h5
                have z2 := List.filter_eq_nil_iff.mp z c hc
                simpa using z2
              wtm_at "w step_of"
              refine ix_l (d := .str b) rfl ?_
              wtm_at "w step_of"
              have hz0 : ∃ c r, b.cps.toList = c :: r := by
                rcases keep with ⟨c, e⟩ | ⟨c, d, e⟩
                · exact ⟨c, _, e⟩
                · exact ⟨c, _, e⟩
              obtain ⟨c0, r0, ec⟩ := hz0
              refine ix_s hb (ex0 c0 r0 ec) ?_
              wtm_at "w step_of"
              have ec0 : ((⟨#[c0]⟩ : Str) = ("0" : Str)) ↔ c0 = 48 := by
                have z : ("0" : Str) = ⟨#[48]⟩ := by decide +kernel
                rw [z]
                constructor
                · intro e
                  have := congrArg (fun s : Str => s.cps.toList) e
                  simpa using this
                · intro e; rw [e]
              refine ite_dec (fun h6 => ?_) (fun h6 => ?_)
              · wtm_at "w step_of"
                refine ix_l (d := .str b) rfl ?_
                wtm_at "w step_of"
                refine ite_ndec (fun h7 => ?_) (fun h7 => ?_)
                · wtm_at "w step_of"
                  refine bad ?_
                  rcases keep with ⟨c, e⟩ | ⟨c, d, e⟩
                  · rw [e] at ec
                    cases ec
                    exact absurd (e0.mpr (by rw [e, ec0.mp h6])) h7
                  · unfold isFig
                    rw [e] at ec ⊢
                    cases ec
                    simp [ec0.mp h6]
                · refine sxs_nil ?_
                  refine fin ?_
                  unfold isFig
                  rw [e0.mp h7]
                  decide
              · refine sxs_nil ?_
                refine fin ?_
                unfold isFig
                rcases keep with ⟨c, e⟩ | ⟨c, d, e⟩
                · rw [e]
                  exact decide_eq_true (all c (by rw [e]; simp))
                · rw [e] at ec
                  cases ec
                  rw [e]
                  have h8 : ¬ c0 = 48 := fun z => h6 (ec0.mpr z)
                  simp [all c0 (by rw [e]; simp), all d (by rw [e]; simp), h8]
    · wtm_at "w step_of"
      refine bad ?_
      unfold isFig
      split
      · rename_i e; rw [bl, e] at h2; simp at h2
      · rename_i e; rw [bl, e] at h2; simp at h2
      · rfl
end

/-! ### a text read -/
def linesOf (x : Str) : List Str := if x = "" then [] else Txt.split x "\n"
def wordsOf (l : Str) : List Str := Txt.split l " "
def tame (l : Str) : Prop := l.length ≤ 100000 ∧ PyData.strOk l = true
def spRead : DSp := fun ds M Q => ∃ (x : Str) (ss : List (Str × Int)), ds = [.str x] ∧ (linesOf x).map (fun l => stepOf (wordsOf l)) = ss.map some ∧ ss.length ≤ 400 ∧ x.length ≤ 100000 ∧
  (∀ l ∈ linesOf x, l.length ≤ 100000 ∧ ∀ p ∈ wordsOf l, tame p) ∧ ∀ l, M l = none → Q (.ref l) (mupd M l (.lst (ss.map encS)))
section
variable {P : Program} {w : World} {K : PySem.W.Frag} {mg : Str → Option Value} {base : Heap}
theorem ok_read {f : Addr} {fd : FuncData} (Fn : Fun K "read" "read" s_read f fd) (ze : mg "enumerate" = none) (gM : Cst K mg "MOST_STEPS" (.int 400)) (dN : Dfn P w K mg base 1 "step_of" spStepOf) : FnOk P w K mg base CX0 2 f fd ["text"] (lift K spRead) := by
  refine fun_ok Fn sc_read (fun ds M Q ⟨_, _, e, _⟩ => by rw [e]; rfl) fun cdv A outer s H E hr ds M Q h B => ?_
  obtain ⟨x, ss, rfl, hl, hn, hx, ht, k⟩ := h
  have g1 : Gb (X_read P w K mg base f cdv A outer s H E) "MOST_STEPS" (.int 400) := ⟨rfl, gM, by decide⟩
  have hlen : (linesOf x).length = ss.length := by
    have e := congrArg List.length hl
    simpa using e
  have big : (100000 : Nat) + 2 ≤ sizeLine := by decide
  have n1 : (("\n" : Str).length == 0) = false := by decide +kernel
  have n2 : ((" " : Str).length == 0) = false := by decide +kernel
  wtm_at "b"
  wtm_at "w read"
  refine ex_lstM (ax_nil ⟨Nat.zero_le _, fun l fl => ?_⟩)
  wtm_at "w read"
  refine sx_for PassesOwn.never rfl (fun _ => rfl) ?_
  refine lx_enum rfl ze rfl ⟨_, _, _, rfl⟩ (EX.imp (Q := fun d M1 => d = .lst ((linesOf x).map D.str) ∧ M1 = mupd M l (.lst [])) ?_ ?_)
  · wtm_at "w read"
    refine ite_ndec (fun h1 => ?_) (fun h1 => ?_)
    · refine ex_m1 PySem.F.slot_str_split PySem.F.type_str_split rfl rfl rfl ?_
      wtm_at "w read"
      refine ⟨_, rfl, ?_⟩
      wtm_at "w read"
      refine mx_split n1 (by omega) ⟨?_, rfl⟩
      rw [linesOf, if_neg h1]
    · refine ex_lst (ax_nil ⟨Nat.zero_le _, ?_, rfl⟩)
      rw [linesOf, if_pos h1]
      rfl
  · rintro d M1 ⟨rfl, rfl⟩
    refine ⟨_, rfl, fun i G' M' => ∃ a b c, G' = [some (.str x), some (.ref l), a, b, c] ∧ M' = mupd M l (.lst ((ss.take i).map encS)), ⟨_, _, _, rfl, rfl⟩, ?_, ?_⟩
    · rintro i d G' M' hd ⟨a, b, c, rfl, rfl⟩
      obtain ⟨y, hy, rfl⟩ := enumD_at hd
      rw [List.getElem?_map] at hy
      obtain ⟨line, hline, rfl⟩ := Option.map_eq_some_iff.mp hy
      have hi : i < ss.length := by rw [← hlen]; exact (List.getElem?_eq_some_iff.mp hline).1
      obtain ⟨tl, tw⟩ := ht line (List.mem_of_getElem? hline)
      have hst : stepOf (wordsOf line) = some ss[i] := by
        have e := congrArg (fun l => l[i]?) hl
        simp only [List.getElem?_map, hline, Option.map_some] at e
        rw [List.getElem?_eq_getElem hi] at e
        simpa using e
      wtm_at "w read"
      refine ex_m1 PySem.F.slot_str_split PySem.F.type_str_split rfl rfl rfl ?_
      wtm_at "w read"
      refine ⟨_, rfl, ?_⟩
      wtm_at "w read"
      refine mx_split n2 (by omega) ?_
      wtm_at "w read"
      refine ⟨wordsOf line, rfl, fun p hp => ⟨Nat.le_trans (tw p hp).1 (by decide), (tw p hp).2⟩, ?_⟩
      rw [hst]
      wtm_at "w read"
      refine ite_dec (fun h1 => by omega) (fun _ => ?_)
      wtm_at "w read"
      refine ex_append rfl rfl rfl rfl rfl ?_
      wtm_at "w read"
      refine ⟨l, _, rfl, mupd_same, ?_⟩
      wtm_at "w read"
      refine ⟨_, mupd_same, ?_, ?_⟩
      · rw [List.length_map, List.length_take]
        exact Nat.lt_of_le_of_lt (by omega : _ ≤ 400) (by decide)
      · wtm_at "w read"
        refine ⟨_, _, _, rfl, ?_⟩
        rw [mupd_mupd, List.take_add_one, List.getElem?_eq_getElem hi, List.map_append]
        rfl
    · rintro G' M' ⟨a, b, c, rfl, rfl⟩
      wtm_at "w read"
      rw [enumD_len, List.length_map, hlen, List.take_length]
      exact k l fl
end

/-! ### the making of BadText -/
section
variable {P : Program} {w : World} {K : PySem.W.Frag} {mg : Str → Option Value} {base : Heap}
theorem oki_BadText {CT L : Addr} {f : Addr} {fd : FuncData} (Fn : Fun K "__init__" "BadText.__init__" s_BadText_init f fd) (T : OexC K CT) (hno : PySem.W.findIn K (.ref CT) "row" = some none) (c : UpC K mg "LinkError" L) : FnOk P w K mg base CX0 1 f fd ["self", "row"] (spXI CT "row") :=
  init_okX Fn sc_BadText_init rfl a_BadText_init_0 a_BadText_init_1 rfl rfl (by decide) (fun _ => rfl) T hno c
end

/-! ### a text that can't be read -/
def spxRead (CT : Addr) : DSpX := fun ds M Ex => ∃ (x : Str) (r : Nat) (line : Str), ds = [.str x] ∧ (linesOf x)[r]? = some line ∧ (∀ i l, i < r → (linesOf x)[i]? = some l → ∃ s, stepOf (wordsOf l) = some s) ∧ r ≤ 400 ∧ (stepOf (wordsOf line) = none ∨ r = 400) ∧ x.length ≤ 100000 ∧
  (∀ l ∈ linesOf x, l.length ≤ 100000 ∧ ∀ p ∈ wordsOf l, tame p) ∧ ∀ dd l M', M l = none → M' dd = none → (∀ a o, M a = some o → M' a = some o) → Ex ⟨CT, some ("row", (r : Int))⟩ (mupd M' dd (.xd "row" (r : Int)))
section
variable {P : Program} {w : World} {K : PySem.W.Frag} {mg : Str → Option Value} {base : Heap}
theorem okx_read {CT : Addr} {f : Addr} {fd : FuncData} (Fn : Fun K "read" "read" s_read f fd) (ze : mg "enumerate" = none) (gM : Cst K mg "MOST_STEPS" (.int 400)) (dN : Dfn P w K mg base 1 "step_of" spStepOf) (xi : XcI P w K mg base 1 "BadText" CT "row") : FnOk P w K mg base (L2.CX P w) 3 f fd ["text"] (liftX K (spxRead CT)) := by
  refine fun_okX Fn sc_read (fun ds M Ex ⟨_, _, _, e, _⟩ => by rw [e]; rfl) fun cdv A outer s H E hr ds M Ex h B tk => ?_
  obtain ⟨x, r, line, rfl, hline, hgood, hr4, hbad, hx, ht, k⟩ := h
  have big : (100000 : Nat) + 2 ≤ sizeLine := by decide
  have n1 : (("\n" : Str).length == 0) = false := by decide +kernel
  have n2 : ((" " : Str).length == 0) = false := by decide +kernel
  wtm_at "b"
  wtm_at "hx read"
  refine ex_lstM (ax_nil ⟨Nat.zero_le _, fun l fl => ?_⟩)
  wtm_at "hx read"
  refine sx_for (passes_of rfl) rfl (fun _ => rfl) ?_
  refine lx_enum rfl ze rfl ⟨_, _, _, rfl⟩ (EX.imp (Q := fun d M1 => d = .lst ((linesOf x).map D.str) ∧ M1 = mupd M l (.lst [])) ?_ ?_)
  · wtm_at "hx read"
    refine ite_ndec (fun h1 => ?_) (fun h1 => ?_)
    · refine ex_m1 PySem.F.slot_str_split PySem.F.type_str_split rfl rfl rfl ?_
      wtm_at "hx read"
      refine ⟨_, rfl, ?_⟩
      wtm_at "hx read"
      refine mx_split n1 (by omega) ⟨?_, rfl⟩
      rw [linesOf, if_neg h1]
    · refine ex_lst (ax_nil ⟨Nat.zero_le _, ?_, rfl⟩)
      rw [linesOf, if_pos h1]
      rfl
  · rintro d M1 ⟨rfl, rfl⟩
    refine ⟨_, rfl, fun i G' M' => i ≤ r ∧ ∃ (ss : List (Str × Int)) (a b c : Option D), ss.length = i ∧ G' = [some (.str x), some (.ref l), a, b, c] ∧ M' = mupd M l (.lst (ss.map encS)), ⟨Nat.zero_le _, [], _, _, _, rfl, rfl, rfl⟩, ?_, ?_⟩
    · rintro i d G' M' hd ⟨hir, ss, a, b, c, hsl, rfl, rfl⟩
      obtain ⟨y, hy, rfl⟩ := enumD_at hd
      rw [List.getElem?_map] at hy
      obtain ⟨ln, hln, rfl⟩ := Option.map_eq_some_iff.mp hy
      obtain ⟨tl, tw⟩ := ht ln (List.mem_of_getElem? hln)
      wtm_at "hx read"
      refine ex_m1 PySem.F.slot_str_split PySem.F.type_str_split rfl rfl rfl ?_
      wtm_at "hx read"
      refine ⟨_, rfl, ?_⟩
      wtm_at "hx read"
      refine mx_split n2 (by omega) ?_
      wtm_at "hx read"
      refine ⟨wordsOf ln, rfl, fun p hp => ⟨Nat.le_trans (tw p hp).1 (by decide), (tw p hp).2⟩, ?_⟩
      by_cases hlt : i < r
      · obtain ⟨st, hst⟩ := hgood i ln hlt hln
        rw [hst]
        wtm_at "hx read"
        refine sx_ifF ?_ ?_
        · wtm_at "hx read"
          exact ⟨decide_eq_false (by omega), rfl⟩
        refine sxs_nil ?_
        wtm_at "b"
        wtm_at "hx read"
        refine ex_append rfl rfl rfl rfl rfl ?_
        wtm_at "hx read"
        refine ⟨l, _, rfl, mupd_same, ?_⟩
        wtm_at "hx read"
        refine ⟨_, mupd_same, ?_, ?_⟩
        · rw [List.length_map]
          exact Nat.lt_of_le_of_lt (by omega : _ ≤ 400) (by decide)
        · refine ⟨by omega, ss ++ [st], _, _, _, by simp [hsl], rfl, ?_⟩
          rw [mupd_mupd, List.map_append]
          rfl
      · have hi' : i = r := by omega
        subst hi'
        rw [hline] at hln
        cases hln
        refine sxs_cons ?_
        refine sx_ifT ?_ ?_
        · cases hs : stepOf (wordsOf line) with
          | none =>
            wtm_at "hx read"
            exact ⟨rfl, rfl⟩
          | some st =>
            have h4 : i = 400 := by
              rcases hbad with hb | hb
              · rw [hs] at hb; cases hb
              · exact hb
            wtm_at "hx read"
            exact ⟨decide_eq_true (by omega), rfl⟩
        · refine sxs_one (sx_raiseI (f := "row") xi tk rfl hr rfl rfl rfl rfl ?_)
          wtm_at "hx read"
          exact ⟨_, rfl, by omega, by omega, fun dd hdd => k dd l _ fl hdd (fun a o e => by rw [mupd_ne (mne e fl)]; exact e)⟩
    · rintro G' M' ⟨hir, _⟩
      exfalso
      rw [enumD_len, List.length_map] at hir
      have := (List.getElem?_eq_some_iff.mp hline).1
      omega
end

/-! ### the law's own reader -/
theorem num_isFig : ∀ n : Nat, n < 100 → isFig (toString (n : Int)) = true := by decide +kernel
theorem fig_num {x : Str} (h : isFig x = true) : ∃ n : Nat, n < 100 ∧ x = toString (n : Int) := by
  obtain ⟨⟨l⟩⟩ := x
  have h1 : ∀ c ∈ figs, ∃ n : Nat, n < 100 ∧ (⟨⟨[c]⟩⟩ : Str) = toString (n : Int) := by
    intro c hc
    have : ∀ c ∈ figs, (⟨⟨[c]⟩⟩ : Str) = toString ((c - 48 : Nat) : Int) ∧ c - 48 < 100 := by decide +kernel
    exact ⟨c - 48, (this c hc).2, (this c hc).1⟩
  have h2 : ∀ c ∈ figs, ∀ d ∈ figs, c ≠ 48 → ∃ n : Nat, n < 100 ∧ (⟨⟨[c, d]⟩⟩ : Str) = toString (n : Int) := by
    intro c hc d hd h0
    have : ∀ c ∈ figs, ∀ d ∈ figs, c ≠ 48 → (⟨⟨[c, d]⟩⟩ : Str) = toString (((c - 48) * 10 + (d - 48) : Nat) : Int) ∧ (c - 48) * 10 + (d - 48) < 100 := by decide +kernel
    exact ⟨(c - 48) * 10 + (d - 48), (this c hc d hd h0).2, (this c hc d hd h0).1⟩
  match l, h with
  | [c], h => exact h1 c (of_decide_eq_true h)
  | [c, d], h =>
    obtain ⟨hh, h3⟩ := Bool.and_eq_true_iff.mp (show (decide (c ∈ figs) && decide (d ∈ figs) && !decide (c = 48)) = true from h)
    obtain ⟨hc, hd⟩ := Bool.and_eq_true_iff.mp hh
    exact h2 c (of_decide_eq_true hc) d (of_decide_eq_true hd) (by simpa using h3)
def nums : List Str := (List.range 100).map fun n : Nat => (toString (n : Int) : Str)
theorem mem_nums {x : Str} : x ∈ nums ↔ isFig x = true := by
  unfold nums
  rw [List.mem_map]
  constructor
  · rintro ⟨n, hn, rfl⟩
    exact num_isFig n (List.mem_range.mp hn)
  · intro h
    obtain ⟨n, hn, rfl⟩ := fig_num h
    exact ⟨n, List.mem_range.mpr hn, rfl⟩
/-- a number's text -/
def fNum : D → Option D
  | .int n => some (.str (toString n))
  | _ => none
theorem nums_of : (rangeD 0 100).filterMap fNum = nums.map D.str := by
  unfold rangeD nums
  rw [List.map_map, List.filterMap_map]
  rw [show (fNum ∘ fun i : Nat => D.int (0 + (i : Nat))) = fun i : Nat => some (D.str (toString (i : Int))) from funext fun i => by
    show fNum (.int (0 + (i : Int))) = _
    rw [Int.zero_add]; rfl]
  rw [List.filterMap_eq_map']
  rfl
def spLRead : DSp := fun ds M Q => ∃ line : Str, ds = [.str line] ∧ line.length ≤ 100000 ∧ (∀ p ∈ wordsOf line, tame p) ∧ ∀ M', Ext M M' → Q (encO (stepOf (wordsOf line))) M'
section
variable {P : Program} {w : World} {K : PySem.W.Frag} {mg : Str → Option Value} {base : Heap}
theorem ok_L_read {f : Addr} {fd : FuncData} (Fn : Fun K "_law_read" "_law_read" s_L_read f fd) (zl : mg "len" = none) (zs : mg "str" = none) (zr : mg "range" = none) (zi : mg "int" = none) : FnOk P w K mg base CX0 1 f fd ["_law_line"] (lift K spLRead) := by
  refine fun_ok Fn sc_L_read (fun ds M Q ⟨_, e, _⟩ => by rw [e]; rfl) fun cdv A outer s H E hr ds M Q h B => ?_
  obtain ⟨line, rfl, hl, ht, k⟩ := h
  have big : (100000 : Nat) + 2 ≤ sizeLine := by decide
  have n2 : ((" " : Str).length == 0) = false := by decide +kernel
  wtm_at "b"
  wtm_at "g L_read"
  refine ex_m1 PySem.F.slot_str_split PySem.F.type_str_split rfl rfl rfl ?_
  wtm_at "g L_read"
  refine ⟨_, rfl, ?_⟩
  wtm_at "g L_read"
  refine mx_split n2 (by omega) ?_
  generalize hws : Txt.split line " " = ws
  have hws' : wordsOf line = ws := hws
  rw [hws'] at ht k
  clear hws hws'
  wtm_at "h L_read"
  have other : ws.length ≠ 2 → stepOf ws = none := fun h => by
    unfold stepOf
    split
    · exact absurd rfl h
    · rfl
  by_cases h2 : ws.length = 2
  · match ws, h2, ht, k with
    | [a, b], _, ht, k =>
      clear other
      by_cases ha : a ∈ stepWords
      · refine sx_ifF ?_ ?_
        · wtm_at "h L_read"
          refine ox_notInT rfl rfl ?_
          have e : inD (.str a) [.str "send", .str "call", .str "lose", .str "beat"] = decide (a ∈ stepWords) := inD_str (xs := stepWords)
          rw [e, decide_eq_true ha]
          exact ⟨rfl, rfl⟩
        refine sxs_nil ?_
        wtm_at "b"
        refine sx_ifB (!decide (b ∈ nums)) ?_ (fun h3 => ?_) (fun h3 => ?_)
        · wtm_at "h L_read"
          wtm_at "lcp L_read 0"
          case f => exact fNum
          refine lx_range1 rfl zr rfl ?_
          wtm_at "h L_read"
          refine ⟨_, rfl, by decide, by decide, ⟨by rw [rangeD_len]; decide, fun d M' hd hm => ?_⟩, ?_⟩
          · obtain ⟨i, hi⟩ := List.mem_iff_getElem?.mp hd
            obtain ⟨hi2, rfl⟩ := rangeD_at hi
            refine fun s1 H1 C1 cl1 fp1 => txs_nil (iteT fun s2 H2 C2 cl2 fp2 => ?_)
            wtm_at "gb L_read"
            refine bx_strI ?_ ?_
            · exact log_small (by omega) (by omega)
            · exact ⟨rfl, rfl⟩
          rw [show (Int.toNat 100) = 100 from rfl, nums_of]
          refine ox_notInL rfl flat_strs ?_
          rw [inD_str]
          exact ⟨rfl, rfl⟩
        · have hb : ¬ isFig b = true := fun z => by
            rw [decide_eq_true (mem_nums.mpr z)] at h3
            cases h3
          have e : stepOf [a, b] = none := by simp [stepOf, hb]
          rw [e] at k
          wtm_at "b"
          wtm_at "h L_read"
          exact k M (Ext.refl M)
        · have hb : isFig b = true := mem_nums.mp (by simpa using h3)
          have e : stepOf [a, b] = some (a, figVal b) := by simp [stepOf, hb, ha]
          have hl2 : b.length ≤ 640 := by
            obtain ⟨n, hn, rfl⟩ := fig_num hb
            exact Nat.le_trans (PyProof.Rows.toString_length_le (k := 2) (by omega) (by decide) (by omega)) (by decide)
          rw [e] at k
          refine sxs_nil ?_
          wtm_at "b"
          wtm_at "h L_read"
          refine bx_intS (fig_int hb) hl2 ?_
          wtm_at "h L_read"
          exact k M (Ext.refl M)
      · refine sx_ifT ?_ ?_
        · wtm_at "h L_read"
          refine ox_notInT rfl rfl ?_
          have e : inD (.str a) [.str "send", .str "call", .str "lose", .str "beat"] = decide (a ∈ stepWords) := inD_str (xs := stepWords)
          rw [e, decide_eq_false ha]
          exact ⟨rfl, rfl⟩
        wtm_at "b"
        wtm_at "h L_read"
        have e : stepOf [a, b] = none := by simp [stepOf, ha]
        rw [e] at k
        exact k M (Ext.refl M)
  · refine sx_ifT ?_ ?_
    · wtm_at "h L_read"
      rw [List.length_map]
      exact ite_ndec (fun _ => ⟨rfl, rfl⟩) (fun z => absurd (by omega) h2)
    wtm_at "b"
    wtm_at "h L_read"
    rw [other h2] at k
    exact k M (Ext.refl M)
end

/-! ### the law's draws -/
/-- the row: the script, a place, a mix -/
def rowO (ns : List Int) (i z : Int) : MO := .lst [.fzl (ns.map D.int), .int i, .int z]
def Row (ns : List Int) (r : Addr) (M : Mem) : Prop := ∃ (i : Nat) (z : Int), M r = some (rowO ns i z) ∧ 0 ≤ z ∧ z < 2147483647
/-- all but the cell r is as it was -/
def But (r : Addr) (M M' : Mem) : Prop := ∀ a, a ≠ r → M' a = M a
def spTaken : DSp := fun ds M Q => ∃ (ns : List Int) (r : Addr) (many : Int), ds = [.ref r, .int many] ∧ Row ns r M ∧ 0 < many ∧ ∀ k M', 0 ≤ k → k < many → Row ns r M' → But r M M' → Q (.int k) M'
section
variable {P : Program} {w : World} {K : PySem.W.Frag} {mg : Str → Option Value} {base : Heap}
theorem ok_taken {f : Addr} {fd : FuncData} (Fn : Fun K "_law_taken" "_law_taken" s_L_taken f fd) (zl : mg "len" = none) : FnOk P w K mg base CX0 1 f fd ["_law_row", "_law_many"] (lift K spTaken) := by
  refine fun_ok Fn sc_L_taken (fun ds M Q ⟨_, _, _, e, _⟩ => by rw [e]; rfl) fun cdv A outer s H E hr ds M Q h B => ?_
  obtain ⟨ns, r, many, rfl, ⟨i, z, hM, z0, z1⟩, hm, k⟩ := h
  wtm_at "b"
  have bl : Blt (X_L_taken P w K mg base f cdv A outer s H E) "len" (.builtin "len") := ⟨rfl, zl, PySem.boot_len, by decide, by decide⟩
  wtm_at "w L_taken"
  refine ix_c hM (d := .int i) rfl ?_
  wtm_at "w L_taken"
  refine gx_sub (fun _ => rfl) ?_
  wtm_at "w L_taken"
  refine ⟨r, _, 1, 1, rfl, rfl, hM, rfl, ?_⟩
  have h1 : ∀ (j w : Int), But r M (mupd M r (rowO ns j w)) := fun j w a ha => mupd_ne ha
  show SXs _ _ _ _ _ (mupd M r (rowO ns ((i : Int) + 1) z))
  wtm_at "w L_taken"
  refine ix_c mupd_same (d := .int ((i : Int) + 1)) rfl ?_

  wtm_at "w L_taken"
  refine ix_c mupd_same (d := .fzl (ns.map D.int)) rfl ?_
  wtm_at "w L_taken"
  rw [List.length_map]
  refine ite_dec (fun hlt => ?_) (fun hlt => ?_)
  · wtm_at "w L_taken"
    refine ix_c mupd_same (d := .int z) rfl ?_
    wtm_at "w L_taken"
    refine ox_mul (Or.inr ⟨by decide, by decide⟩) ?_
    wtm_at "w L_taken"
    refine ox_mod (by decide) ?_
    refine gx_sub (fun _ => rfl) ?_
    wtm_at "w L_taken"
    refine ⟨r, _, 2, 2, rfl, rfl, mupd_same, rfl, ?_⟩
    rw [mupd_mupd]
    show SXs _ _ _ _ _ (mupd M r (rowO ns ((i : Int) + 1) ((z * 48271 + 11) % 2147483647)))
    wtm_at "w L_taken"
    refine ix_c mupd_same (d := .int ((z * 48271 + 11) % 2147483647)) rfl ?_
    wtm_at "w L_taken"
    refine ox_fdiv ⟨by decide, by decide⟩ ?_
    wtm_at "w L_taken"
    refine ox_mod hm ?_
    exact k _ _ (Int.emod_nonneg _ (by omega)) (Int.emod_lt_of_pos _ hm) ⟨i + 1, _, by rw [mupd_same]; rfl, Int.emod_nonneg _ (by decide), Int.emod_lt_of_pos _ (by decide)⟩ (h1 _ _)
  · have hi : i < ns.length := by omega
    wtm_at "w L_taken"
    refine ix_c mupd_same (d := .fzl (ns.map D.int)) rfl ?_
    wtm_at "w L_taken"
    refine ix_c mupd_same (d := .int ((i : Int) + 1)) rfl ?_
    wtm_at "w L_taken"
    refine ix_f (d := .int (ns[i])) (atI_of (j := i) (by omega) (by simp)) ?_
    wtm_at "w L_taken"
    refine ix_c mupd_same (d := .int z) rfl ?_
    wtm_at "w L_taken"
    refine ox_mul (Or.inr ⟨by decide, by decide⟩) ?_
    wtm_at "w L_taken"
    refine ox_mod (by decide) ?_
    refine gx_sub (fun _ => rfl) ?_
    wtm_at "w L_taken"
    refine ⟨r, _, 2, 2, rfl, rfl, mupd_same, rfl, ?_⟩
    rw [mupd_mupd]
    show SXs _ _ _ _ _ (mupd M r (rowO ns ((i : Int) + 1) ((z * 48271 + ns[i] + 11) % 2147483647)))
    wtm_at "w L_taken"
    refine ox_mod hm ?_
    exact k _ _ (Int.emod_nonneg _ (by omega)) (Int.emod_lt_of_pos _ hm) ⟨i + 1, _, by rw [mupd_same]; rfl, Int.emod_nonneg _ (by decide), Int.emod_lt_of_pos _ (by decide)⟩ (h1 _ _)
end

/-! ### drawn steps -/
def spAny : DSp := fun ds M Q => ∃ (ns : List Int) (r : Addr) (most : Int), ds = [.ref r, .int most] ∧ Row ns r M ∧ 0 ≤ most ∧ most ≤ 400 ∧
  ∀ (ss : List (Str × Int)) (M' : Mem), (∀ s ∈ ss, goodS s) → (ss.length : Int) ≤ most → Row ns r M' → But r M M' → Q (.lst (ss.map encS)) M'
theorem Row.cell {ns : List Int} {r : Addr} {M : Mem} (h : Row ns r M) : ∃ o, M r = some o := by
  obtain ⟨i, z, h, _⟩ := h
  exact ⟨_, h⟩
theorem Row.but {ns : List Int} {r : Addr} {M M' : Mem} (h : Row ns r M) (e : M' r = M r) : Row ns r M' := by
  obtain ⟨i, z, h, h2⟩ := h
  exact ⟨i, z, by rw [e]; exact h, h2⟩
theorem But.refl (r : Addr) (M : Mem) : But r M M := fun _ _ => rfl
theorem But.trans {r : Addr} {M M1 M2 : Mem} (h : But r M M1) (g : But r M1 M2) : But r M M2 := fun a ha => (g a ha).trans (h a ha)
section
variable {P : Program} {w : World} {K : PySem.W.Frag} {mg : Str → Option Value} {base : Heap}
theorem ok_L_any {f : Addr} {fd : FuncData} (Fn : Fun K "_law_any" "_law_any" s_L_any f fd) (zr : mg "range" = none) (dT : Dfn P w K mg base 1 "_law_taken" spTaken) : FnOk P w K mg base CX0 2 f fd ["_law_row", "_law_most"] (lift K spAny) := by
  refine fun_ok Fn sc_L_any (fun ds M Q ⟨_, _, _, e, _⟩ => by rw [e]; rfl) fun cdv A outer s H E hr ds M Q h B => ?_
  obtain ⟨ns, r, most, rfl, hR, h0, h1, k⟩ := h
  wtm_at "b"
  wtm_at "g L_any"
  refine ex_lst ?_
  wtm_at "g L_any"
  refine ⟨ns, r, _, rfl, hR, by omega, fun many M1 m0 m1 hR1 hB1 => ?_⟩
  wtm_at "g L_any"
  wtm_at "lc L_any 0"
  refine lx_range1 rfl zr rfl ?_
  wtm_at "g L_any"
  refine ⟨_, rfl, by omega, by omega, fun L hL => ?_⟩
  have hLr : L ≠ r := fun e => by
    obtain ⟨o, ho⟩ := hR1.cell
    rw [e, ho] at hL; cases hL
  refine ⟨fun i acc M' => ∃ ss : List (Str × Int), acc = ss.map encS ∧ ss.length = i ∧ (∀ s ∈ ss, goodS s) ∧ Row ns r M' ∧ ∀ a, a ≠ r → a ≠ L → M' a = M a, ?_, ?_, ?_⟩
  · refine ⟨[], rfl, rfl, by simp, hR1.but (mupd_ne (Ne.symm hLr)), fun a ha hb => ?_⟩
    rw [mupd_ne hb]; exact hB1 a ha
  · rintro i d acc M' hd ⟨ss, rfl, hl, hg, hR2, hB2⟩ hM
    obtain ⟨hi, rfl⟩ := rangeD_at hd
    refine fun s1 H1 C1 cl1 fp1 => txs_nil (iteT fun s2 H2 C2 cl2 fp2 => ?_)
    wtm_at "gb L_any"
    refine ⟨ns, r, _, rfl, hR2, by decide, fun k1 M3 a0 a1 hR3 hB3 => ?_⟩
    refine ix_ls (ns := stepWords) a0 a1 fun wd hwd => ?_
    wtm_at "gb L_any"
    refine ⟨ns, r, _, rfl, hR3, by decide, fun k2 M4 c0 c1 hR4 hB4 => ?_⟩
    refine ix_li (ns := [10, 100]) c0 c1 fun top htop => ?_
    wtm_at "gb L_any"
    have ht : top = 10 ∨ top = 100 := by simpa using htop
    refine ⟨ns, r, _, rfl, hR4, by omega, fun k3 M5 e0 e1 hR5 hB5 => ?_⟩
    wtm_at "gb L_any"
    refine ⟨?_, ?_, ss ++ [(wd, k3)], by rw [List.map_append]; rfl, by simp [hl], ?_, hR5.but (mupd_ne (Ne.symm hLr)), fun a ha hb => ?_⟩
    · rw [hB5 L hLr, hB4 L hLr, hB3 L hLr]; exact hM
    · rw [List.length_map]
      exact Nat.lt_of_le_of_lt (by omega : _ ≤ 1000) (by decide)
    · intro s hs
      rcases List.mem_append.mp hs with hs | hs
      · exact hg s hs
      · rw [List.mem_singleton.mp hs]
        exact ⟨hwd, e0, by rcases ht with rfl | rfl <;> omega⟩
    · rw [mupd_ne hb, hB5 a ha, hB4 a ha, hB3 a ha]
      exact hB2 a ha hb
  · rintro acc M' ⟨ss, rfl, hl, hg, hR2, hB2⟩ hM
    rw [rangeD_len] at hl
    refine k ss _ hg (by omega) ?_ ?_
    · refine hR2.but ?_
      unfold mdel
      rw [if_neg (Ne.symm hLr)]
    · intro a ha
      unfold mdel
      by_cases e : a = L
      · rw [if_pos e, e, ← hB1 L hLr, hL]
      · rw [if_neg e]; exact hB2 a ha e
end

/-! ### texts: their weight (no program here) -/
def wt (zs : List Str) : Nat := (zs.map fun z => z.length + 1).sum
theorem wt_nil : wt [] = 0 := rfl
theorem wt_cons (z : Str) (zs : List Str) : wt (z :: zs) = z.length + 1 + wt zs := by unfold wt; rw [List.map_cons, List.sum_cons]
theorem wt_app (a b : List Str) : wt (a ++ b) = wt a + wt b := by unfold wt; rw [List.map_append, List.sum_append]
theorem wt_mem {z : Str} {zs : List Str} (h : z ∈ zs) : z.length + 1 ≤ wt zs := by
  induction zs with
  | nil => simp at h
  | cons y ys ih =>
    rw [wt_cons]
    rcases List.mem_cons.mp h with e | e
    · rw [e]; omega
    · have := ih e; omega
theorem wt_len (zs : List Str) : zs.length ≤ wt zs := by
  induction zs with
  | nil => exact Nat.zero_le _
  | cons y ys ih => rw [wt_cons, List.length_cons]; omega
theorem wt_cut (zs : List Str) (n : Nat) : wt (zs.take n) + wt (zs.drop n) = wt zs := by rw [← wt_app, List.take_append_drop]
/-- all signs are signs -/
def okT (zs : List Str) : Prop := ∀ z ∈ zs, PyData.strOk z = true
theorem spl_wt {c : Nat} : ∀ (l acc : List Nat), ((TL.spl [c] 0 acc l).map fun z => z.length + 1).sum = acc.length + l.length + 1
  | [], acc => by rw [TL.spl_nil]; simp
  | d :: l, acc => by
    have e : TL.spl [c] 0 acc (d :: l) = if TL.pre [c] (d :: l) = true then acc :: TL.spl [c] 0 [] l else TL.spl [c] 0 (acc ++ [d]) l := rfl
    rw [e]
    split
    · rw [List.map_cons, List.sum_cons, spl_wt l []]
      simp only [List.length_nil, List.length_cons]
      omega
    · rw [spl_wt l (acc ++ [d])]
      simp only [List.length_append, List.length_cons, List.length_nil]
      omega
theorem spl_sub {c : Nat} : ∀ (l acc : List Nat) (z : List Nat), z ∈ TL.spl [c] 0 acc l → ∀ u ∈ z, u ∈ acc ∨ u ∈ l
  | [], acc, z, hz, u, hu => by
    rw [TL.spl_nil] at hz
    rw [List.mem_singleton.mp hz] at hu
    exact .inl hu
  | d :: l, acc, z, hz, u, hu => by
    have e : TL.spl [c] 0 acc (d :: l) = if TL.pre [c] (d :: l) = true then acc :: TL.spl [c] 0 [] l else TL.spl [c] 0 (acc ++ [d]) l := rfl
    rw [e] at hz
    split at hz
    · rcases List.mem_cons.mp hz with h | h
      · rw [h] at hu; exact .inl hu
      · rcases spl_sub l [] z h u hu with h2 | h2
        · simp at h2
        · exact .inr (List.mem_cons_of_mem _ h2)
    · rcases spl_sub l (acc ++ [d]) z hz u hu with h2 | h2
      · rcases List.mem_append.mp h2 with h3 | h3
        · exact .inl h3
        · exact .inr (by rw [List.mem_singleton.mp h3]; exact List.mem_cons_self ..)
      · exact .inr (List.mem_cons_of_mem _ h2)
theorem spl_ne {c : Nat} : ∀ (l acc : List Nat), TL.spl [c] 0 acc l ≠ []
  | [], acc => by rw [TL.spl_nil]; simp
  | d :: l, acc => by
    have e : TL.spl [c] 0 acc (d :: l) = if TL.pre [c] (d :: l) = true then acc :: TL.spl [c] 0 [] l else TL.spl [c] 0 (acc ++ [d]) l := rfl
    rw [e]
    split
    · simp
    · exact spl_ne l _
theorem strOk_iff {x : Str} : PyData.strOk x = true ↔ ∀ u ∈ TL.tl x, u < 0x110000 := by
  obtain ⟨⟨l⟩⟩ := x
  unfold PyData.strOk TL.tl
  simp
section
variable {x y : Str} {c : Nat} (ey : TL.tl y = [c]) (hk : y.cps.all (· < 256) = true)
include ey hk
theorem split_tl : (Txt.split x y).map TL.tl = TL.spl [c] 0 [] (TL.tl x) := by
  rw [TL.split_spl _ y (by rw [ey]; simp) (TL.kind_ok hk), ey]
theorem split_wt : wt (Txt.split x y) = x.length + 1 := by
  have h := spl_wt (c := c) (TL.tl x) []
  rw [← split_tl ey hk, List.map_map] at h
  have e : (Txt.split x y).map ((fun z : List Nat => z.length + 1) ∘ TL.tl) = (Txt.split x y).map fun z => z.length + 1 := by
    apply List.map_congr_left
    intro z _
    show (TL.tl z).length + 1 = z.length + 1
    rw [TL.len_tl]
  rw [e] at h
  unfold wt
  rw [h]
  have := TL.len_tl x
  simp only [List.length_nil]
  omega
theorem split_ok (hx : PyData.strOk x = true) : okT (Txt.split x y) := fun z hz => by
  rw [strOk_iff]
  intro u hu
  have h1 : TL.tl z ∈ TL.spl [c] 0 [] (TL.tl x) := by rw [← split_tl ey hk]; exact List.mem_map.mpr ⟨z, hz, rfl⟩
  rcases spl_sub _ _ _ h1 u hu with h2 | h2
  · simp at h2
  · exact strOk_iff.mp hx u h2
theorem split_ne : Txt.split x y ≠ [] := fun e => by
  have := spl_ne (c := c) (TL.tl x) []
  rw [← split_tl ey hk, e] at this
  exact this rfl
end
theorem joinL_len {c : Nat} : ∀ ps : List (List Nat), ps ≠ [] → (TL.joinL [c] ps).length + 1 = (ps.map fun z => z.length + 1).sum
  | [], h => absurd rfl h
  | [p], _ => by simp [TL.joinL]
  | p :: q :: r, _ => by
    have ih := joinL_len (c := c) (q :: r) (by simp)
    rw [List.map_cons, List.sum_cons, ← ih]
    show (p ++ ([c] ++ TL.joinL [c] (q :: r))).length + 1 = _
    rw [List.length_append, List.length_append]
    simp only [List.length_cons, List.length_nil]
    omega
theorem joinL_sub {c : Nat} : ∀ (ps : List (List Nat)) (u : Nat), u ∈ TL.joinL [c] ps → u = c ∨ ∃ p ∈ ps, u ∈ p
  | [], u, h => by simp [TL.joinL] at h
  | [p], u, h => .inr ⟨p, by simp, h⟩
  | p :: q :: r, u, h => by
    have h' : u ∈ p ++ ([c] ++ TL.joinL [c] (q :: r)) := h
    rcases List.mem_append.mp h' with h1 | h1
    · exact .inr ⟨p, by simp, h1⟩
    · rcases List.mem_append.mp h1 with h2 | h2
      · exact .inl (List.mem_singleton.mp h2)
      · rcases joinL_sub (q :: r) u h2 with h3 | ⟨z, hz, h3⟩
        · exact .inl h3
        · exact .inr ⟨z, List.mem_cons_of_mem _ hz, h3⟩
section
variable {y : Str} {c : Nat} (ey : TL.tl y = [c]) (hc : c < 0x110000)
include ey
theorem join_wt (zs : List Str) : (Txt.join y zs).length ≤ wt zs := by
  have e : TL.tl (Txt.join y zs) = TL.joinL [c] (zs.map TL.tl) := by rw [TL.join_eq, TL.tl_join, ey]
  rw [TL.len_tl, e]
  by_cases hz : zs = []
  · subst hz; exact Nat.zero_le _
  · have h := joinL_len (c := c) (zs.map TL.tl) (by simpa using hz)
    rw [List.map_map] at h
    have e2 : zs.map ((fun z : List Nat => z.length + 1) ∘ TL.tl) = zs.map fun z => z.length + 1 := by
      apply List.map_congr_left
      intro z _
      show (TL.tl z).length + 1 = z.length + 1
      rw [TL.len_tl]
    rw [e2] at h
    unfold wt
    omega
include hc
theorem join_ok {zs : List Str} (h : okT zs) : PyData.strOk (Txt.join y zs) = true := by
  have e : TL.tl (Txt.join y zs) = TL.joinL [c] (zs.map TL.tl) := by rw [TL.join_eq, TL.tl_join, ey]
  rw [strOk_iff, e]
  intro u hu
  rcases joinL_sub _ u hu with h1 | ⟨p, hp, h1⟩
  · rw [h1]; exact hc
  · obtain ⟨z, hz, rfl⟩ := List.mem_map.mp hp
    exact strOk_iff.mp (h z hz) u h1
end

/-! ### a text told otherwise in one place -/
def GT (n : Nat) (x : Str) : Prop := x.length ≤ n ∧ PyData.strOk x = true
theorem cutS_len (z : Str) (lo hi : Option Int) : (cutS z lo hi).length ≤ z.length := by
  unfold cutS Str.length
  simp only [List.size_toArray, List.length_take, List.length_drop]
  have : z.cps.toList.length = z.cps.size := Array.length_toList
  omega
theorem cutS_ok {z : Str} (lo hi : Option Int) (h : PyData.strOk z = true) : PyData.strOk (cutS z lo hi) = true := by
  rw [strOk_iff] at h ⊢
  intro u hu
  unfold cutS TL.tl at hu
  refine h u ?_
  have hu2 : u ∈ List.take (HT.sIx z.length z.length hi - HT.sIx z.length 0 lo) (List.drop (HT.sIx z.length 0 lo) z.cps.toList) := by simpa using hu
  exact List.mem_of_mem_drop (List.mem_of_mem_take hu2)
theorem app_ok {x y : Str} (h1 : PyData.strOk x = true) (h2 : PyData.strOk y = true) : PyData.strOk (x ++ y) = true := by
  rw [strOk_iff] at h1 h2 ⊢
  intro u hu
  rw [TL.tl_append] at hu
  rcases List.mem_append.mp hu with h | h
  · exact h1 u h
  · exact h2 u h
theorem cutL_to {zs : List Str} {n : Nat} (h : n ≤ zs.length) : FL.cutD (zs.map D.str) none (some (n : Int)) = (zs.take n).map D.str := by
  rw [FL.cutD_to (by rw [List.length_map]; exact h), List.map_take]
theorem cutL_from {zs : List Str} {n : Nat} (h : n ≤ zs.length) : FL.cutD (zs.map D.str) (some (n : Int)) none = (zs.drop n).map D.str := by
  rw [FL.cutD_from (by rw [List.length_map]; exact h), List.map_drop]
theorem okT_app {a b : List Str} (h1 : okT a) (h2 : okT b) : okT (a ++ b) := fun z hz => (List.mem_append.mp hz).elim (h1 z) (h2 z)
theorem okT_take {a : List Str} {n : Nat} (h : okT a) : okT (a.take n) := fun z hz => h z (List.mem_of_mem_take hz)
theorem okT_drop {a : List Str} {n : Nat} (h : okT a) : okT (a.drop n) := fun z hz => h z (List.mem_of_mem_drop hz)
theorem wt_sum (zs : List Str) : (zs.map (·.length)).sum + zs.length = wt zs := by
  induction zs with
  | nil => rfl
  | cons z zs ih =>
    rw [wt_cons, ← ih, List.map_cons, List.sum_cons, List.length_cons]
    omega
def sgs : Str := "0123456789 \nabcdefghijklmnopqrstuvwxyz!#$&'()*+,-./:;<=>?@ABCDEFGHIJKLMNOPQRSTUVWXYZ[]^_{|}~"
theorem sgs_len : sgs.length = 92 := by decide +kernel
theorem sgs_ok : ∀ c ∈ sgs.cps.toList, c < 0x110000 := by decide +kernel
theorem one_ok {c : Nat} (h : c ∈ sgs.cps.toList) : GT 1 ⟨#[c]⟩ := ⟨Nat.le_refl 1, by
  rw [strOk_iff]
  intro u hu
  have : u = c := by simpa [TL.tl] using hu
  rw [this]
  exact sgs_ok c h⟩
def spSpoilt : DSp := fun ds M Q => ∃ (ns : List Int) (r : Addr) (x : Str) (n : Nat), ds = [.ref r, .str x] ∧ Row ns r M ∧ GT n x ∧ n ≤ 10000 ∧ ∀ (y : Str) (M' : Mem), GT (2 * n + 20) y → Row ns r M' → But r M M' → Q (.str y) M'
section
variable {P : Program} {w : World} {K : PySem.W.Frag} {mg : Str → Option Value} {base : Heap}
theorem ok_L_spoilt {f : Addr} {fd : FuncData} (Fn : Fun K "_law_spoilt" "_law_spoilt" s_L_spoilt f fd) (zl : mg "len" = none) (zi : mg "int" = none) (dT : Dfn P w K mg base 1 "_law_taken" spTaken) : FnOk P w K mg base CX0 2 f fd ["_law_row", "_law_text"] (lift K spSpoilt) := by
  refine fun_ok Fn sc_L_spoilt (fun ds M Q ⟨_, _, _, _, e, _⟩ => by rw [e]; rfl) fun cdv A outer s H E hr ds M Q h B => ?_
  obtain ⟨ns, r, x, n, rfl, hR, ⟨hx, hxo⟩, hn, k⟩ := h
  have big : 100000 ≤ sizeLine := by decide
  wtm_at "b"
  wtm_at "g L_spoilt"
  refine ⟨ns, r, _, rfl, hR, by decide, fun way M1 a0 a1 hR1 hB1 => ?_⟩
  wtm_at "g L_spoilt"
  refine bx_lenS (by omega) ?_
  wtm_at "g L_spoilt"
  refine ⟨ns, r, _, rfl, hR1, by omega, fun at0 M2 b0 b1 hR2 hB2 => ?_⟩
  wtm_at "g L_spoilt"
  refine bx_lenS (z := sgs) (by rw [sgs_len]; decide) ?_
  rw [sgs_len]
  wtm_at "g L_spoilt"
  refine ⟨ns, r, _, rfl, hR2, by decide, fun k3 M3 c0 c1 hR3 hB3 => ?_⟩
  refine ix_li (ns := [12, 92]) c0 c1 fun top htop => ?_
  have ht : top = 12 ∨ top = 92 := by simpa using htop
  wtm_at "g L_spoilt"
  refine ⟨ns, r, _, rfl, hR3, by omega, fun k4 M4 d0 d1 hR4 hB4 => ?_⟩
  obtain ⟨i4, rfl⟩ : ∃ i : Nat, k4 = (i : Int) := ⟨k4.toNat, by omega⟩
  have hi4 : i4 < sgs.cps.toList.length := by
    have : sgs.cps.toList.length = 92 := by decide +kernel
    omega
  obtain ⟨c, hc⟩ : ∃ c, sgs.cps.toList[i4]? = some c := ⟨_, List.getElem?_eq_getElem hi4⟩
  have hcm : c ∈ sgs.cps.toList := List.mem_of_getElem? hc
  obtain ⟨hs1, hso⟩ := one_ok hcm
  have hB14 : But r M M4 := ((hB1.trans hB2).trans hB3).trans hB4
  refine ix_s (x := sgs) (c := c) (by rw [sgs_len]; decide) (atI_nat hc) ?_
  generalize (⟨#[c]⟩ : Str) = sg at hs1 hso
  wtm_at "g L_spoilt"
  refine ite_dec (fun hw3 => ?_) (fun hw3 => ?_)
  · wtm_at "g L_spoilt"
    refine slx_s (by omega) ?_
    wtm_at "g L_spoilt"
    refine ix_lm a0 hw3 fun md hmd => ?_
    obtain ⟨mid, rfl, hm1, hmo⟩ : ∃ mid : Str, md = .str mid ∧ mid.length ≤ 1 ∧ PyData.strOk mid = true := by
      simp only [List.mem_cons, List.not_mem_nil, or_false] at hmd
      rcases hmd with rfl | rfl | rfl
      · exact ⟨sg, rfl, hs1, hso⟩
      · exact ⟨"", rfl, by decide +kernel, by decide +kernel⟩
      · exact ⟨sg, rfl, hs1, hso⟩
    have l1 := cutS_len x none (some at0)
    refine ox_addS (by omega) ?_
    wtm_at "g L_spoilt"
    refine bx_intB ?_
    wtm_at "g L_spoilt"
    refine slx_s (by omega) ?_
    generalize hcut : cutS x _ none = tail
    have l2 : tail.length ≤ x.length := by rw [← hcut]; exact cutS_len _ _ _
    have o2 : PyData.strOk tail = true := by rw [← hcut]; exact cutS_ok _ _ hxo
    refine ox_addS (by rw [Str.length_append]; omega) ?_
    refine k _ M4 ⟨?_, app_ok (app_ok (cutS_ok _ _ hxo) hmo) o2⟩ hR4 hB14
    rw [Str.length_append, Str.length_append]
    omega
  refine sxs_nil ?_
  have ey : TL.tl ("\n" : Str) = [10] := by decide +kernel
  have ek : ("\n" : Str).cps.all (· < 256) = true := by decide +kernel
  have ey2 : TL.tl (" " : Str) = [32] := by decide +kernel
  have ek2 : (" " : Str).cps.all (· < 256) = true := by decide +kernel
  have n1 : (("\n" : Str).length == 0) = false := by decide +kernel
  have n2 : ((" " : Str).length == 0) = false := by decide +kernel
  wtm_at "b"
  wtm_at "g L_spoilt"
  refine ex_m1 PySem.F.slot_str_split PySem.F.type_str_split rfl rfl rfl ?_
  wtm_at "g L_spoilt"
  refine ⟨_, rfl, ?_⟩
  wtm_at "g L_spoilt"
  refine mx_split n1 (by omega) ?_
  have hw := split_wt (x := x) ey ek
  have hso2 := split_ok (x := x) ey ek hxo
  have hne := split_ne (x := x) ey ek
  generalize Txt.split x "\n" = ls at hw hso2 hne
  have hll := wt_len ls
  have hlp : 0 < ls.length := List.length_pos_iff.mpr hne
  wtm_at "g L_spoilt"
  rw [List.length_map]
  refine ⟨ns, r, _, rfl, hR4, by omega, fun k5 M5 e0 e1 hR5 hB5 => ?_⟩
  wtm_at "g L_spoilt"
  rw [List.length_map]
  wtm_at "g L_spoilt"
  refine ⟨ns, r, _, rfl, hR5, by decide, fun k6 M6 f0 f1 hR6 hB6 => ?_⟩
  refine ex_int (ox_fdiv ⟨by decide, by decide⟩ ?_)
  refine ix_li (ns := [k5, (ls.length : Int) - 1]) (by omega) (by show _ < (2 : Int); omega) fun kk hkk => ?_
  have hkk' : kk = k5 ∨ kk = (ls.length : Int) - 1 := by simpa using hkk
  obtain ⟨m, rfl⟩ : ∃ m : Nat, kk = (m : Int) := ⟨kk.toNat, by omega⟩
  have hm : m < ls.length := by omega
  have hB16 : But r M M6 := (hB14.trans hB5).trans hB6
  have em : (m : Int) + 1 = ((m + 1 : Nat) : Int) := by omega
  have c1 : FL.cutD (ls.map D.str) none (some (m : Int)) = (ls.take m).map D.str := cutL_to (by omega)
  have c2 : FL.cutD (ls.map D.str) (some ((m : Int) + 1)) none = (ls.drop (m + 1)).map D.str := by rw [em]; exact cutL_from (by omega)
  have c3 : FL.cutD (ls.map D.str) none (some ((m : Int) + 1)) = (ls.take (m + 1)).map D.str := by rw [em]; exact cutL_to (by omega)
  have c4 : FL.cutD (ls.map D.str) (some (m : Int)) none = (ls.drop m).map D.str := cutL_from (by omega)
  have w1 := wt_cut ls m
  have w2 := wt_cut ls (m + 1)
  have hz : ∀ zs : List Str, wt zs ≤ 2 * n + 20 → zs.length ≤ 2 * n + 20 := fun zs h => Nat.le_trans (wt_len zs) h
  have n10 : (10 : Nat) < 0x110000 := by decide
  have n32 : (32 : Nat) < 0x110000 := by decide
  have lt1 : (ls.take m).length ≤ ls.length := by rw [List.length_take]; omega
  have lt2 : (ls.take (m + 1)).length ≤ ls.length := by rw [List.length_take]; omega
  have ld1 : (ls.drop m).length ≤ ls.length := by rw [List.length_drop]; omega
  have ld2 : (ls.drop (m + 1)).length ≤ ls.length := by rw [List.length_drop]; omega
  have l1 : ("\n" : Str).length = 1 := by decide +kernel
  have l2 : (" " : Str).length = 1 := by decide +kernel
  wtm_at "g L_spoilt"
  refine ite_dec (fun hw6 => ?_) (fun hw6 => ?_)
  · wtm_at "g L_spoilt"
    refine ex_m1 PySem.F.slot_str_join PySem.F.type_str_join rfl rfl rfl ?_
    wtm_at "g L_spoilt"
    refine ⟨_, rfl, ?_⟩
    wtm_at "g L_spoilt"
    refine slx_l IsL.fz ?_
    wtm_at "g L_spoilt"
    refine slx_l IsL.fz ?_
    rw [c1, c2]
    refine ox_catL IsL.fz IsL.fz (by rw [List.length_map, List.length_map]; omega) ?_
    wtm_at "g L_spoilt"
    refine slx_l IsL.fz ?_
    wtm_at "g L_spoilt"
    refine slx_l IsL.fz ?_
    rw [c3, c4]
    refine ox_catL IsL.fz IsL.fz (by rw [List.length_map, List.length_map]; omega) ?_
    wtm_at "g L_spoilt"
    refine slx_l IsL.fz ?_
    wtm_at "g L_spoilt"
    refine slx_l IsL.fz ?_
    rw [c1, c4]
    refine ox_catL IsL.fz IsL.fz (by rw [List.length_map, List.length_map]; omega) ?_
    wtm_at "g L_spoilt"
    refine ix_lm (by omega) (by show _ < (3 : Int); omega) fun md hmd => ?_
    obtain ⟨zs, rfl, hzw, hzo⟩ : ∃ zs : List Str, md = .lst (zs.map D.str) ∧ wt zs ≤ 2 * n + 20 ∧ okT zs := by
      simp only [List.mem_cons, List.not_mem_nil, or_false] at hmd
      rcases hmd with rfl | rfl | rfl
      · exact ⟨ls.take m ++ ls.drop (m + 1), by rw [List.map_append], by rw [wt_app]; omega, okT_app (okT_take hso2) (okT_drop hso2)⟩
      · exact ⟨ls.take (m + 1) ++ ls.drop m, by rw [List.map_append], by rw [wt_app]; omega, okT_app (okT_take hso2) (okT_drop hso2)⟩
      · exact ⟨ls.drop m ++ ls.take m, by rw [List.map_append], by rw [wt_app]; omega, okT_app (okT_drop hso2) (okT_take hso2)⟩
    have hsum := wt_sum zs
    refine mx_join (by rw [l1]; omega) ?_
    exact k _ M6 ⟨Nat.le_trans (join_wt ey zs) hzw, join_ok ey n10 hzo⟩ hR6 hB16
  refine sxs_nil ?_
  obtain ⟨ln, hln⟩ : ∃ ln, ls[m]? = some ln := ⟨_, List.getElem?_eq_getElem hm⟩
  have hlm : ln ∈ ls := List.mem_of_getElem? hln
  have hlw := wt_mem hlm
  have hlo := hso2 ln hlm
  have hdm : wt (ls.drop m) = ln.length + 1 + wt (ls.drop (m + 1)) := by
    have e : ls.drop m = ln :: ls.drop (m + 1) := by
      rw [List.drop_eq_getElem_cons hm]
      rw [List.getElem?_eq_getElem hm] at hln
      rw [Option.some.inj hln]
    rw [e, wt_cons]
  wtm_at "b"
  wtm_at "g L_spoilt"
  refine ex_m1 PySem.F.slot_str_split PySem.F.type_str_split rfl rfl rfl ?_
  wtm_at "g L_spoilt"
  refine ix_l (d := .str ln) (atI_of rfl (by rw [List.getElem?_map, hln]; rfl)) ?_
  refine ⟨_, rfl, ?_⟩
  wtm_at "g L_spoilt"
  refine mx_split n2 (by omega) ?_
  have vw := split_wt (x := ln) ey2 ek2
  have vo := split_ok (x := ln) ey2 ek2 hlo
  have vne := split_ne (x := ln) ey2 ek2
  generalize Txt.split ln " " = ws at vw vo vne
  have vll := wt_len ws
  have vlp : 0 < ws.length := List.length_pos_iff.mpr vne
  wtm_at "g L_spoilt"
  rw [List.length_map]
  refine ⟨ns, r, _, rfl, hR6, by omega, fun jj M7 g0 g1 hR7 hB7 => ?_⟩
  obtain ⟨j, rfl⟩ : ∃ j : Nat, jj = (j : Int) := ⟨jj.toNat, by omega⟩
  have hj : j < ws.length := by omega
  obtain ⟨wj, hwj⟩ : ∃ wj, ws[j]? = some wj := ⟨_, List.getElem?_eq_getElem hj⟩
  have hwjm : wj ∈ ws := List.mem_of_getElem? hwj
  have hwjw := wt_mem hwjm
  have hwjo := vo wj hwjm
  have hdj : wt (ws.drop j) = wj.length + 1 + wt (ws.drop (j + 1)) := by
    have e : ws.drop j = wj :: ws.drop (j + 1) := by
      rw [List.drop_eq_getElem_cons hj]
      rw [List.getElem?_eq_getElem hj] at hwj
      rw [Option.some.inj hwj]
    rw [e, wt_cons]
  have w3 := wt_cut ws j
  have ej : (j : Int) + 1 = ((j + 1 : Nat) : Int) := by omega
  have d1 : FL.cutD (ws.map D.str) none (some (j : Int)) = (ws.take j).map D.str := cutL_to (by omega)
  have d2 : FL.cutD (ws.map D.str) (some ((j : Int) + 1)) none = (ws.drop (j + 1)).map D.str := by rw [ej]; exact cutL_from (by omega)
  have lt3 : (ws.take j).length ≤ ws.length := by rw [List.length_take]; omega
  have ld3 : (ws.drop (j + 1)).length ≤ ws.length := by rw [List.length_drop]; omega
  wtm_at "g L_spoilt"
  refine ex_lst ?_
  wtm_at "g L_spoilt"
  refine slx_l IsL.fz ?_
  rw [d1]
  wtm_at "g L_spoilt"
  refine ex_lst (ax_nil ⟨Nat.zero_le _, ?_⟩)
  wtm_at "g L_spoilt"
  refine ix_l (d := .str wj) (atI_of rfl (by rw [List.getElem?_map, hwj]; rfl)) ?_
  wtm_at "g L_spoilt"
  refine ox_repL (by decide) ?_ (by decide)
  wtm_at "g L_spoilt"
  refine ex_lst ?_
  wtm_at "g L_spoilt"
  refine ⟨ns, r, _, rfl, hR7, by decide, fun k8 M8 i0 i1 hR8 hB8 => ?_⟩
  refine ix_ls (ns := ["", "0", "00", "9", "99", "100", "-1", "send", "call", "lose", "beat", "Beat"]) i0 i1 fun od hod => ?_
  have hodd : GT 4 od := by
    have : ∀ z ∈ (["", "0", "00", "9", "99", "100", "-1", "send", "call", "lose", "beat", "Beat"] : List Str), z.length ≤ 4 ∧ PyData.strOk z = true := by decide +kernel
    exact this od hod
  wtm_at "g L_spoilt"
  refine ix_lm (by omega) (by show _ < (3 : Int); omega) fun md hmd => ?_
  obtain ⟨zs, rfl, hzw, hzo, hzl⟩ : ∃ zs : List Str, md = .lst (zs.map D.str) ∧ wt zs ≤ 2 * wj.length + 7 ∧ okT zs ∧ zs.length ≤ 2 := by
    simp only [List.mem_cons, List.not_mem_nil, or_false] at hmd
    rcases hmd with rfl | rfl | rfl
    · exact ⟨[], rfl, by rw [wt_nil]; omega, fun z hz => absurd hz (by simp), Nat.zero_le 2⟩
    · refine ⟨[wj, wj], rfl, by rw [wt_cons, wt_cons, wt_nil]; omega, fun z hz => ?_, Nat.le_refl 2⟩
      have : z = wj := by simpa using hz
      rw [this]; exact hwjo
    · refine ⟨[od], rfl, by rw [wt_cons, wt_nil]; have := hodd.1; omega, fun z hz => ?_, Nat.le_succ 1⟩
      rw [List.mem_singleton.mp hz]; exact hodd.2
  refine ox_catL IsL.fz IsL.fz (by rw [List.length_map, List.length_map]; omega) ?_
  wtm_at "g L_spoilt"
  refine slx_l IsL.fz ?_
  rw [d2, ← List.map_append]
  refine ox_catL IsL.fz IsL.fz (by rw [List.length_map, List.length_map, List.length_append]; omega) ?_
  rw [← List.map_append]
  have hvw : wt (ws.take j ++ zs ++ ws.drop (j + 1)) ≤ 2 * ln.length + 8 := by
    rw [wt_app, wt_app]; omega
  have hvo : okT (ws.take j ++ zs ++ ws.drop (j + 1)) := okT_app (okT_app (okT_take vo) hzo) (okT_drop vo)
  generalize ws.take j ++ zs ++ ws.drop (j + 1) = vs at hvw hvo
  wtm_at "g L_spoilt"
  refine ex_m1 PySem.F.slot_str_join PySem.F.type_str_join rfl rfl rfl ?_
  wtm_at "g L_spoilt"
  refine ⟨_, rfl, ?_⟩
  wtm_at "g L_spoilt"
  refine slx_l IsL.fz ?_
  rw [c1]
  wtm_at "g L_spoilt"
  refine ex_m1 PySem.F.slot_str_join PySem.F.type_str_join rfl rfl rfl ?_
  wtm_at "g L_spoilt"
  refine ⟨_, rfl, ?_⟩
  wtm_at "g L_spoilt"
  have hsv := wt_sum vs
  refine mx_join (by rw [l2]; omega) ?_
  have hjl := join_wt ey2 vs
  have hjo := join_ok ey2 n32 hvo
  generalize Txt.join " " vs = jt at hjl hjo
  wtm_at "g L_spoilt"
  refine ox_catL IsL.fz (es := [.str jt]) IsL.fz (by rw [List.length_map]; exact Nat.le_trans (by show _ ≤ 20000; simp; omega) (by decide : 20000 ≤ sizeLine)) ?_
  rw [show ([.str jt] : List D) = [jt].map D.str from rfl, ← List.map_append]
  wtm_at "g L_spoilt"
  refine slx_l IsL.fz ?_
  rw [c2]
  refine ox_catL IsL.fz IsL.fz (by rw [List.length_map, List.length_map, List.length_append]; exact Nat.le_trans (by show _ ≤ 30000; simp; omega) (by decide : 30000 ≤ sizeLine)) ?_
  rw [← List.map_append]
  have hww : wt (ls.take m ++ [jt] ++ ls.drop (m + 1)) ≤ 2 * n + 20 := by
    rw [wt_app, wt_app, wt_cons, wt_nil]; omega
  have hwo : okT (ls.take m ++ [jt] ++ ls.drop (m + 1)) := okT_app (okT_app (okT_take hso2) (fun z hz => by rw [List.mem_singleton.mp hz]; exact hjo)) (okT_drop hso2)
  have hsw := wt_sum (ls.take m ++ [jt] ++ ls.drop (m + 1))
  generalize ls.take m ++ [jt] ++ ls.drop (m + 1) = us at hww hwo hsw
  refine mx_join (by rw [l1]; omega) ?_
  exact k _ M8 ⟨Nat.le_trans (join_wt ey us) hww, join_ok ey n10 hwo⟩ hR8 ((hB16.trans hB7).trans hB8)
end

/-! ### the same, place by place -/
def spAlike (n : Nat) : DSp := fun ds M Q => ∃ d, ds = [d, d] ∧ d.okA = true ∧ d.dep ≤ n ∧ Q (.bl true) M
section
variable {P : Program} {w : World} {K : PySem.W.Frag} {mg : Str → Option Value} {base : Heap}
theorem rec_alike {f : Addr} {fd : FuncData} (Fn : Fun K "_law_alike" "_law_alike" s_L_alike f fd) (mf : mg "_law_alike" = some (.ref f)) (zi : mg "isinstance" = none) (zt : mg "tuple" = none) (zL : mg "list" = none) (zl : mg "len" = none) (zr : mg "range" = none) (zb : mg "bool" = none) (zs : mg "str" = none) (zn : mg "int" = none) :
    ∀ n, FnOk P w K mg base CX0 (n + 1) f fd ["_law_found", "_law_due"] (lift K (spAlike n)) := by
  intro n
  induction n with
  | zero =>
    refine fun_ok Fn sc_L_alike (fun ds M Q ⟨_, e, _⟩ => by rw [e]; rfl) fun cdv A outer s H E hr ds M Q h B => ?_
    obtain ⟨d, rfl, ha, hd, k⟩ := h
    wtm_at "b"
    cases d with
    | non => wtm_at "g L_alike"; exact k
    | bl b =>
      wtm_at "g L_alike"
      rw [decide_eq_true rfl]; exact k
    | int i =>
      wtm_at "g L_alike"
      rw [decide_eq_true rfl]; exact k
    | str x =>
      wtm_at "g L_alike"
      rw [decide_eq_true rfl]; exact k
    | tup ds => exact absurd (dep_tup.mp hd).1 (by decide)
    | lst ds => exact absurd (dep_lst.mp hd).1 (by decide)
    | _ => unfold D.okA at ha; cases ha
  | succ n ih =>
    have bd := Fn.binds (ps := ["_law_found", "_law_due"]) fun _ _ _ _ _ _ us hl => match us, hl with | [_, _], _ => rfl
    refine fun_ok Fn sc_L_alike (fun ds M Q ⟨_, e, _⟩ => by rw [e]; rfl) fun cdv A outer s H E hr ds M Q h B => ?_
    obtain ⟨d, rfl, ha, hd, k⟩ := h
    have c1 : Dfn P w K mg base (n + 1) "_law_alike" (spAlike n) := ⟨f, fd, _, ih, mf, Fn.kp, bd⟩
    wtm_at "b"
    cases d with
    | non => wtm_at "g L_alike"; exact k
    | bl b =>
      wtm_at "g L_alike"
      rw [decide_eq_true rfl]; exact k
    | int i =>
      wtm_at "g L_alike"
      rw [decide_eq_true rfl]; exact k
    | str x =>
      wtm_at "g L_alike"
      rw [decide_eq_true rfl]; exact k
    | tup ds =>
      obtain ⟨hl, hA⟩ := okA_tup' ha
      have hdd := (dep_tup.mp hd).2
      wtm_at "g L_alike"
      wtm_at "lcp L_alike 0"
      case f => exact fun _ => none
      refine lx_range1 rfl zr rfl ?_
      wtm_at "g L_alike"
      refine ⟨_, rfl, by omega, by omega, ⟨?_, fun d M' hdm hm => ?_⟩, ?_⟩
      · rw [rangeD_len]
        exact Nat.lt_of_le_of_lt (by omega : _ ≤ 100000) (by decide)
      · obtain ⟨i, hi⟩ := List.mem_iff_getElem?.mp hdm
        obtain ⟨hlt, rfl⟩ := rangeD_at hi
        have hi2 : i < ds.length := by omega
        have ei : ds[i]? = some ds[i] := List.getElem?_eq_getElem hi2
        refine fun s1 H1 C1 cl1 fp1 => txs_one ?_
        wtm_at "wb L_alike"
        refine ix_t (d := ds[i]) (atI_of (i := 0 + (i : Int)) (j := i) (Int.zero_add _) ei) ?_
        wtm_at "wb L_alike"
        refine ix_t (d := ds[i]) (atI_of (i := 0 + (i : Int)) (j := i) (Int.zero_add _) ei) ?_
        wtm_at "wb L_alike"
        exact ⟨_, rfl, hA _ (List.getElem_mem hi2), hdd _ (List.getElem_mem hi2), rfl, rfl⟩
      · rw [filterMap_none]
        wtm_at "w L_alike"
        exact ox_eq0 (n := 0) hr.units (by simp) (by decide) k
    | lst ds =>
      obtain ⟨hl, hA⟩ := okA_lst' ha
      have hdd := (dep_lst.mp hd).2
      wtm_at "g L_alike"
      wtm_at "lcp L_alike 0"
      case f => exact fun _ => none
      refine lx_range1 rfl zr rfl ?_
      wtm_at "g L_alike"
      refine ⟨_, rfl, by omega, by omega, ⟨?_, fun d M' hdm hm => ?_⟩, ?_⟩
      · rw [rangeD_len]
        exact Nat.lt_of_le_of_lt (by omega : _ ≤ 100000) (by decide)
      · obtain ⟨i, hi⟩ := List.mem_iff_getElem?.mp hdm
        obtain ⟨hlt, rfl⟩ := rangeD_at hi
        have hi2 : i < ds.length := by omega
        have ei : ds[i]? = some ds[i] := List.getElem?_eq_getElem hi2
        refine fun s1 H1 C1 cl1 fp1 => txs_one ?_
        wtm_at "wb L_alike"
        refine ix_l (d := ds[i]) (atI_of (i := 0 + (i : Int)) (j := i) (Int.zero_add _) ei) ?_
        wtm_at "wb L_alike"
        refine ix_l (d := ds[i]) (atI_of (i := 0 + (i : Int)) (j := i) (Int.zero_add _) ei) ?_
        wtm_at "wb L_alike"
        exact ⟨_, rfl, hA _ (List.getElem_mem hi2), hdd _ (List.getElem_mem hi2), rfl, rfl⟩
      · rw [filterMap_none]
        wtm_at "w L_alike"
        exact ox_eq0 (n := 0) hr.units (by simp) (by decide) k
    | _ => unfold D.okA at ha; cases ha
theorem ok_L_alike {f : Addr} {fd : FuncData} (Fn : Fun K "_law_alike" "_law_alike" s_L_alike f fd) (mf : mg "_law_alike" = some (.ref f)) (zi : mg "isinstance" = none) (zt : mg "tuple" = none) (zL : mg "list" = none) (zl : mg "len" = none) (zr : mg "range" = none) (zb : mg "bool" = none) (zs : mg "str" = none) (zn : mg "int" = none) :
    FnOk P w K mg base CX0 7 f fd ["_law_found", "_law_due"] (lift K (spAlike 6)) := by
  exact rec_alike Fn mf zi zt zL zl zr zb zs zn 6
end

/-! ### the word of a refusal -/
/-- .. and of its field -/
structure ErrF (K : PySem.W.Frag) (cl : Str → Addr) (N f : Str) : Prop where
  k : ErrK K cl N
  xf : XfC K (cl N)
  no : PySem.W.findIn K (.ref (cl N)) f = some none
/-- the word of an error -/
def WdE (K : PySem.W.Frag) (cl : Str → Addr) (y : XD) (d : D) : Prop :=
  (∃ n, y = ⟨cl "BadLetters", some ("at", n)⟩ ∧ ErrF K cl "BadLetters" "at" ∧ d = .tup [.str "letters", .int n]) ∨
  (∃ n, y = ⟨cl "BadText", some ("row", n)⟩ ∧ ErrF K cl "BadText" "row" ∧ d = .tup [.str "text", .int n]) ∨
  (y = ⟨cl "Over", none⟩ ∧ ErrK K cl "Over" ∧ d = .str "over") ∨
  (y = ⟨cl "BadCount", none⟩ ∧ ErrK K cl "BadCount" ∧ d = .str "count")
theorem WdE.ex {K : PySem.W.Frag} {cl : Str → Addr} {y : XD} {d : D} (h : WdE K cl y d) : PySem.W.exmOne K (.ref y.C) (.ref (cl "LinkError")) = some true := by
  rcases h with ⟨n, rfl, e, _⟩ | ⟨n, rfl, e, _⟩ | ⟨rfl, e, _⟩ | ⟨rfl, e, _⟩
  · exact e.k.ex
  · exact e.k.ex
  · exact e.ex
  · exact e.ex
/-- the place of the one that is true -/
theorem hot_before {es : List D} {d : D} {j : Nat} (h : (es.take j).all (fun z => !eqV z.toV d.toV) = true) : ∀ m z, m < j → es[m]? = some z → eqV z.toV d.toV = false := fun m z hm hz => by
  have e : (es.take j)[m]? = some z := by rw [List.getElem?_take, if_pos hm]; exact hz
  have := List.all_eq_true.mp h z (List.mem_of_getElem? e)
  simpa using this
section
variable {P : Program} {w : World} {K : PySem.W.Frag} {mg : Str → Option Value} {base : Heap}
set_option maxHeartbeats 4000000 in
theorem wf_L_word {cl : Str → Addr} {f : Addr} {fd : FuncData} (Fn : Fun K "_law_word" "_law_word" s_L_word f fd) (mw : mg "_law_word" = some (.ref f)) (bd : Binds K fd ["_law_work"] []) (zi : mg "isinstance" = none) (zv : mg "ValueError" = none) (gL : mg "LinkError" = some (.ref (cl "LinkError")))
    (g0 : Cst K mg "BadBook" (.ref (cl "BadBook"))) (g1 : Cst K mg "BadLetters" (.ref (cl "BadLetters"))) (g2 : Cst K mg "BadStep" (.ref (cl "BadStep"))) (g3 : Cst K mg "BadText" (.ref (cl "BadText"))) (g4 : Cst K mg "BadDelay" (.ref (cl "BadDelay"))) (g5 : Cst K mg "BadWindows" (.ref (cl "BadWindows"))) (g6 : Cst K mg "NoCommand" (.ref (cl "NoCommand")))
    (g7 : Cst K mg "NoWindow" (.ref (cl "NoWindow"))) (g8 : Cst K mg "NoLetter" (.ref (cl "NoLetter"))) (g9 : Cst K mg "BadReport" (.ref (cl "BadReport"))) (g10 : Cst K mg "TooMany" (.ref (cl "TooMany"))) (g11 : Cst K mg "BadCount" (.ref (cl "BadCount"))) (g12 : Cst K mg "Over" (.ref (cl "Over"))) :
    WordF P w K mg base "_law_word" (WdE K cl) := by
  obtain ⟨oc, od, kV, doc, pm, an, cdv, ct, osl, rfl, lk, hcd⟩ := Fn.ex
  refine ⟨f, "_law_work", n_L_word, _, _, _, _, _, _, _, cdv, _, _, _, _, _, mw, Fn.kp, lk, hcd, bd, sc_L_word, rfl, .inl (by decide +kernel), by decide, by decide, ?_⟩
  intro A outer s H B hr f' M Ex Q hEx hact
  refine sxs_cons (sx_tryX (i := 1) Ex rfl rfl sc_L_word.nd rfl rfl ⟨rfl, by decide, .inl gL⟩ (fun y M' h => ?_) (fun B' pn xe sB tk => ?_) fun a oe cls d pn y M' hz hf xr ex => ?_)
  · obtain ⟨d, h1, _⟩ := hEx y M' h
    exact h1.ex
  · exact sxs_one (sx_expr rfl (hact B' pn xe _ _ _ _ sB tk rfl))
  · obtain ⟨dd, hw, q⟩ := hEx y M' ex
    obtain ⟨rfl, hd⟩ := xr
    have eG : (List.replicate (cxOf CX0 P w K mg base n_L_word "_law_word" (defScope s_L_word) f cdv A outer s H E0).nox.N.length (none : Option D)).set 1 (some (D.ref a)) = [none, some (.ref a), none, none, none] := rfl
    rcases hw with ⟨n, rfl, e, rfl⟩ | ⟨n, rfl, e, rfl⟩ | ⟨rfl, e, rfl⟩ | ⟨rfl, e, rfl⟩
    · obtain ⟨p, rfl, hp⟩ := hd
      have hdx : DxK M' (some p) := ⟨_, _, hp⟩
      have isF : ∀ {G Q} (x : Str), x ∈ kinds → decide (x = "BadLetters") = false → Q (.bl false) M' → BX B (Cx.suite (cxOf CX0 P w K mg base n_L_word "_law_word" (defScope s_L_word) f cdv A outer s H E0).nox a ((a, oe) :: pn)) (.builtin "isinstance") [.ref a, .ref (cl x)] G M' Q := fun x hx hb q => bx_isX e.k.ec hz hf hdx ((e.k.ki x hx).trans (by rw [hb])) q
      have isT : ∀ {G Q} (x : Str), x ∈ kinds → decide (x = "BadLetters") = true → Q (.bl true) M' → BX B (Cx.suite (cxOf CX0 P w K mg base n_L_word "_law_word" (defScope s_L_word) f cdv A outer s H E0).nox a ((a, oe) :: pn)) (.builtin "isinstance") [.ref a, .ref (cl x)] G M' Q := fun x hx hb q => bx_isX e.k.ec hz hf hdx ((e.k.ki x hx).trans (by rw [hb])) q
      rw [eG]
      wtm_at "b"
      wtm_at "gx L_word"
      refine ex_lst ?_
      wtm_at "hx L_word"
      repeat (first | (with_reducible refine isF _ (by decide) (by decide) ?_) | (with_reducible refine isT _ (by decide) (by decide) ?_) | wtm_at "hx1 L_word")
      refine ox_catL IsL.fz IsL.fz ?_ ?_
      · exact Nat.le_of_ble_eq_true rfl
      repeat (first | (with_reducible refine isF _ (by decide) (by decide) ?_) | (with_reducible refine isT _ (by decide) (by decide) ?_) | wtm_at "hx1 L_word")
      refine ox_catL IsL.fz IsL.fz ?_ ?_
      · exact Nat.le_of_ble_eq_true rfl
      repeat (first | (with_reducible refine isF _ (by decide) (by decide) ?_) | (with_reducible refine isT _ (by decide) (by decide) ?_) | wtm_at "hx1 L_word")
      refine ox_catL IsL.fz IsL.fz ?_ ?_
      · exact Nat.le_of_ble_eq_true rfl
      wtm_at "hx L_word"
      refine sx_ifF ?_ ?_
      · wtm_at "hx L_word"
        refine ex_bmL PySem.F.slot_list_count PySem.F.type_list_count rfl rfl rfl rfl rfl ?_
        wtm_at "hx L_word"
        refine ⟨_, IsL.fz, ?_⟩
        wtm_at "hx L_word"
        refine mx_count (n := 1) IsL.fz rfl rfl rfl ?_
        wtm_at "hx L_word"
        refine bx_isXT e.k.ec hz hf hdx e.k.kv ?_
        wtm_at "hx L_word"
        exact ⟨rfl, rfl⟩
      wtm_at "hx L_word"
      refine ex_lst ?_
      wtm_at "hx L_word"
      refine ox_catL IsL.fz IsL.fz ?_ ?_
      · exact Nat.le_of_ble_eq_true rfl
      refine ex_bmL PySem.F.slot_list_index PySem.F.type_list_index rfl rfl rfl rfl rfl ?_
      wtm_at "hx L_word"
      refine ⟨_, IsL.fz, ?_⟩
      wtm_at "hx L_word"
      refine mx_index (j := 1) IsL.fz rfl rfl ⟨_, rfl, rfl⟩ (hot_before rfl) ?_
      wtm_at "hx L_word"
      refine sx_ifF ?_ ?_
      · wtm_at "hx L_word"
        refine ox_inT rfl rfl ?_
        exact ⟨rfl, rfl⟩
      wtm_at "hx L_word"
      refine sx_ifT ?_ ?_
      · wtm_at "hx L_word"
        exact ⟨rfl, rfl⟩
      refine sxs_one (sx_ret ?_)
      refine ex_tup (ax_cons rfl ?_)
      wtm_at "v L_word"
      refine ax_cons rfl ?_
      refine ex_xfD (n := n) e.xf e.no hz hf rfl ?_
      wtm_at "v L_word"
      refine ⟨rfl, hp, ax_nil ⟨Nat.le_of_ble_eq_true rfl, ?_⟩⟩
      exact q
    · obtain ⟨p, rfl, hp⟩ := hd
      have hdx : DxK M' (some p) := ⟨_, _, hp⟩
      have isF : ∀ {G Q} (x : Str), x ∈ kinds → decide (x = "BadText") = false → Q (.bl false) M' → BX B (Cx.suite (cxOf CX0 P w K mg base n_L_word "_law_word" (defScope s_L_word) f cdv A outer s H E0).nox a ((a, oe) :: pn)) (.builtin "isinstance") [.ref a, .ref (cl x)] G M' Q := fun x hx hb q => bx_isX e.k.ec hz hf hdx ((e.k.ki x hx).trans (by rw [hb])) q
      have isT : ∀ {G Q} (x : Str), x ∈ kinds → decide (x = "BadText") = true → Q (.bl true) M' → BX B (Cx.suite (cxOf CX0 P w K mg base n_L_word "_law_word" (defScope s_L_word) f cdv A outer s H E0).nox a ((a, oe) :: pn)) (.builtin "isinstance") [.ref a, .ref (cl x)] G M' Q := fun x hx hb q => bx_isX e.k.ec hz hf hdx ((e.k.ki x hx).trans (by rw [hb])) q
      rw [eG]
      wtm_at "b"
      wtm_at "gx L_word"
      refine ex_lst ?_
      wtm_at "hx L_word"
      repeat (first | (with_reducible refine isF _ (by decide) (by decide) ?_) | (with_reducible refine isT _ (by decide) (by decide) ?_) | wtm_at "hx1 L_word")
      refine ox_catL IsL.fz IsL.fz ?_ ?_
      · exact Nat.le_of_ble_eq_true rfl
      repeat (first | (with_reducible refine isF _ (by decide) (by decide) ?_) | (with_reducible refine isT _ (by decide) (by decide) ?_) | wtm_at "hx1 L_word")
      refine ox_catL IsL.fz IsL.fz ?_ ?_
      · exact Nat.le_of_ble_eq_true rfl
      repeat (first | (with_reducible refine isF _ (by decide) (by decide) ?_) | (with_reducible refine isT _ (by decide) (by decide) ?_) | wtm_at "hx1 L_word")
      refine ox_catL IsL.fz IsL.fz ?_ ?_
      · exact Nat.le_of_ble_eq_true rfl
      wtm_at "hx L_word"
      refine sx_ifF ?_ ?_
      · wtm_at "hx L_word"
        refine ex_bmL PySem.F.slot_list_count PySem.F.type_list_count rfl rfl rfl rfl rfl ?_
        wtm_at "hx L_word"
        refine ⟨_, IsL.fz, ?_⟩
        wtm_at "hx L_word"
        refine mx_count (n := 1) IsL.fz rfl rfl rfl ?_
        wtm_at "hx L_word"
        refine bx_isXT e.k.ec hz hf hdx e.k.kv ?_
        wtm_at "hx L_word"
        exact ⟨rfl, rfl⟩
      wtm_at "hx L_word"
      refine ex_lst ?_
      wtm_at "hx L_word"
      refine ox_catL IsL.fz IsL.fz ?_ ?_
      · exact Nat.le_of_ble_eq_true rfl
      refine ex_bmL PySem.F.slot_list_index PySem.F.type_list_index rfl rfl rfl rfl rfl ?_
      wtm_at "hx L_word"
      refine ⟨_, IsL.fz, ?_⟩
      wtm_at "hx L_word"
      refine mx_index (j := 3) IsL.fz rfl rfl ⟨_, rfl, rfl⟩ (hot_before rfl) ?_
      wtm_at "hx L_word"
      refine sx_ifF ?_ ?_
      · wtm_at "hx L_word"
        refine ox_inT rfl rfl ?_
        exact ⟨rfl, rfl⟩
      wtm_at "hx L_word"
      refine sx_ifF ?_ ?_
      · wtm_at "hx L_word"
        exact ⟨rfl, rfl⟩
      refine sxs_nil ?_
      refine sxs_one (sx_ret (ex_if (tx_cmp (nomark _) ?_)))
      wtm_at "v L_word"
      refine ex_str (ox_eqS (asB_bl (iteT' rfl ?_)))
      refine ex_tup (ax_cons rfl ?_)
      wtm_at "v L_word"
      refine ax_cons rfl ?_
      refine ex_xfD (n := n) e.xf e.no hz hf rfl ?_
      wtm_at "v L_word"
      refine ⟨rfl, hp, ax_nil ⟨Nat.le_of_ble_eq_true rfl, ?_⟩⟩
      exact q
    · have hd' : d = none := hd
      subst hd'
      have hdx : DxK M' none := trivial
      have isF : ∀ {G Q} (x : Str), x ∈ kinds → decide (x = "Over") = false → Q (.bl false) M' → BX B (Cx.suite (cxOf CX0 P w K mg base n_L_word "_law_word" (defScope s_L_word) f cdv A outer s H E0).nox a ((a, oe) :: pn)) (.builtin "isinstance") [.ref a, .ref (cl x)] G M' Q := fun x hx hb q => bx_isX e.ec hz hf hdx ((e.ki x hx).trans (by rw [hb])) q
      have isT : ∀ {G Q} (x : Str), x ∈ kinds → decide (x = "Over") = true → Q (.bl true) M' → BX B (Cx.suite (cxOf CX0 P w K mg base n_L_word "_law_word" (defScope s_L_word) f cdv A outer s H E0).nox a ((a, oe) :: pn)) (.builtin "isinstance") [.ref a, .ref (cl x)] G M' Q := fun x hx hb q => bx_isX e.ec hz hf hdx ((e.ki x hx).trans (by rw [hb])) q
      rw [eG]
      wtm_at "b"
      wtm_at "gx L_word"
      refine ex_lst ?_
      wtm_at "hx L_word"
      repeat (first | (with_reducible refine isF _ (by decide) (by decide) ?_) | (with_reducible refine isT _ (by decide) (by decide) ?_) | wtm_at "hx1 L_word")
      refine ox_catL IsL.fz IsL.fz ?_ ?_
      · exact Nat.le_of_ble_eq_true rfl
      repeat (first | (with_reducible refine isF _ (by decide) (by decide) ?_) | (with_reducible refine isT _ (by decide) (by decide) ?_) | wtm_at "hx1 L_word")
      refine ox_catL IsL.fz IsL.fz ?_ ?_
      · exact Nat.le_of_ble_eq_true rfl
      repeat (first | (with_reducible refine isF _ (by decide) (by decide) ?_) | (with_reducible refine isT _ (by decide) (by decide) ?_) | wtm_at "hx1 L_word")
      refine ox_catL IsL.fz IsL.fz ?_ ?_
      · exact Nat.le_of_ble_eq_true rfl
      wtm_at "hx L_word"
      refine sx_ifF ?_ ?_
      · wtm_at "hx L_word"
        refine ex_bmL PySem.F.slot_list_count PySem.F.type_list_count rfl rfl rfl rfl rfl ?_
        wtm_at "hx L_word"
        refine ⟨_, IsL.fz, ?_⟩
        wtm_at "hx L_word"
        refine mx_count (n := 1) IsL.fz rfl rfl rfl ?_
        wtm_at "hx L_word"
        refine bx_isXT e.ec hz hf hdx e.kv ?_
        wtm_at "hx L_word"
        exact ⟨rfl, rfl⟩
      wtm_at "hx L_word"
      refine ex_lst ?_
      wtm_at "hx L_word"
      refine ox_catL IsL.fz IsL.fz ?_ ?_
      · exact Nat.le_of_ble_eq_true rfl
      refine ex_bmL PySem.F.slot_list_index PySem.F.type_list_index rfl rfl rfl rfl rfl ?_
      wtm_at "hx L_word"
      refine ⟨_, IsL.fz, ?_⟩
      wtm_at "hx L_word"
      refine mx_index (j := 12) IsL.fz rfl rfl ⟨_, rfl, rfl⟩ (hot_before rfl) ?_
      wtm_at "hx L_word"
      refine sx_ifF ?_ ?_
      · wtm_at "hx L_word"
        refine ox_inT rfl rfl ?_
        exact ⟨rfl, rfl⟩
      wtm_at "hx L_word"
      refine sx_ifF ?_ ?_
      · wtm_at "hx L_word"
        exact ⟨rfl, rfl⟩
      wtm_at "hx L_word"
      exact q
    · have hd' : d = none := hd
      subst hd'
      have hdx : DxK M' none := trivial
      have isF : ∀ {G Q} (x : Str), x ∈ kinds → decide (x = "BadCount") = false → Q (.bl false) M' → BX B (Cx.suite (cxOf CX0 P w K mg base n_L_word "_law_word" (defScope s_L_word) f cdv A outer s H E0).nox a ((a, oe) :: pn)) (.builtin "isinstance") [.ref a, .ref (cl x)] G M' Q := fun x hx hb q => bx_isX e.ec hz hf hdx ((e.ki x hx).trans (by rw [hb])) q
      have isT : ∀ {G Q} (x : Str), x ∈ kinds → decide (x = "BadCount") = true → Q (.bl true) M' → BX B (Cx.suite (cxOf CX0 P w K mg base n_L_word "_law_word" (defScope s_L_word) f cdv A outer s H E0).nox a ((a, oe) :: pn)) (.builtin "isinstance") [.ref a, .ref (cl x)] G M' Q := fun x hx hb q => bx_isX e.ec hz hf hdx ((e.ki x hx).trans (by rw [hb])) q
      rw [eG]
      wtm_at "b"
      wtm_at "gx L_word"
      refine ex_lst ?_
      wtm_at "hx L_word"
      repeat (first | (with_reducible refine isF _ (by decide) (by decide) ?_) | (with_reducible refine isT _ (by decide) (by decide) ?_) | wtm_at "hx1 L_word")
      refine ox_catL IsL.fz IsL.fz ?_ ?_
      · exact Nat.le_of_ble_eq_true rfl
      repeat (first | (with_reducible refine isF _ (by decide) (by decide) ?_) | (with_reducible refine isT _ (by decide) (by decide) ?_) | wtm_at "hx1 L_word")
      refine ox_catL IsL.fz IsL.fz ?_ ?_
      · exact Nat.le_of_ble_eq_true rfl
      repeat (first | (with_reducible refine isF _ (by decide) (by decide) ?_) | (with_reducible refine isT _ (by decide) (by decide) ?_) | wtm_at "hx1 L_word")
      refine ox_catL IsL.fz IsL.fz ?_ ?_
      · exact Nat.le_of_ble_eq_true rfl
      wtm_at "hx L_word"
      refine sx_ifF ?_ ?_
      · wtm_at "hx L_word"
        refine ex_bmL PySem.F.slot_list_count PySem.F.type_list_count rfl rfl rfl rfl rfl ?_
        wtm_at "hx L_word"
        refine ⟨_, IsL.fz, ?_⟩
        wtm_at "hx L_word"
        refine mx_count (n := 1) IsL.fz rfl rfl rfl ?_
        wtm_at "hx L_word"
        refine bx_isXT e.ec hz hf hdx e.kv ?_
        wtm_at "hx L_word"
        exact ⟨rfl, rfl⟩
      wtm_at "hx L_word"
      refine ex_lst ?_
      wtm_at "hx L_word"
      refine ox_catL IsL.fz IsL.fz ?_ ?_
      · exact Nat.le_of_ble_eq_true rfl
      refine ex_bmL PySem.F.slot_list_index PySem.F.type_list_index rfl rfl rfl rfl rfl ?_
      wtm_at "hx L_word"
      refine ⟨_, IsL.fz, ?_⟩
      wtm_at "hx L_word"
      refine mx_index (j := 11) IsL.fz rfl rfl ⟨_, rfl, rfl⟩ (hot_before rfl) ?_
      wtm_at "hx L_word"
      refine sx_ifF ?_ ?_
      · wtm_at "hx L_word"
        refine ox_inT rfl rfl ?_
        exact ⟨rfl, rfl⟩
      wtm_at "hx L_word"
      refine sx_ifF ?_ ?_
      · wtm_at "hx L_word"
        exact ⟨rfl, rfl⟩
      wtm_at "hx L_word"
      exact q
end

/-! ### the law (k17) -/
abbrev lamQ : Str := (envOfC "law" (defScope s_law) 0 0 .none).qual ++ "<lambda>"
theorem Row.ne {ns : List Int} {r l : Addr} {M : Mem} (h : Row ns r M) (hl : M l = none) : l ≠ r := fun e => by
  obtain ⟨i, z, h, _⟩ := h
  rw [e, h] at hl; cases hl
theorem Row.cell' {ns : List Int} {r : Addr} {M : Mem} (h : Row ns r M) : ∃ o, M r = some o := by
  obtain ⟨i, z, h, _⟩ := h
  exact ⟨_, h⟩
theorem Row.upd {ns : List Int} {r l : Addr} {M : Mem} {o : MO} (h : Row ns r M) (hl : l ≠ r) : Row ns r (mupd M l o) := by
  obtain ⟨i, z, h, h2⟩ := h
  exact ⟨i, z, by rw [mupd_ne (Ne.symm hl)]; exact h, h2⟩
theorem Row.del {ns : List Int} {r l : Addr} {M : Mem} (h : Row ns r M) (hl : l ≠ r) : Row ns r (mdel M l) := by
  obtain ⟨i, z, h, h2⟩ := h
  exact ⟨i, z, by unfold mdel; rw [if_neg (Ne.symm hl)]; exact h, h2⟩
theorem Row.ext {ns : List Int} {r : Addr} {M M' : Mem} (h : Row ns r M) (e : Ext M M') : Row ns r M' := by
  obtain ⟨i, z, h, h2⟩ := h
  exact ⟨i, z, e _ _ h, h2⟩
/-- commands of a drawn book -/
def GX (x : Str) : Prop := x.length ≤ 3000 ∧ PyData.strOk x = true
theorem nlE : TL.tl ("\n" : Str) = [10] := by decide +kernel
theorem nlK : ("\n" : Str).cps.all (· < 256) = true := by decide +kernel
theorem spE : TL.tl (" " : Str) = [32] := by decide +kernel
theorem spK : (" " : Str).cps.all (· < 256) = true := by decide +kernel
theorem gx_lines {x : Str} (h : GX x) : (linesOf x).length ≤ 3001 ∧ ∀ l ∈ linesOf x, l.length ≤ 100000 ∧ ∀ p ∈ wordsOf l, tame p := by
  unfold linesOf
  split
  · exact ⟨Nat.zero_le _, fun l hl => absurd hl (by simp)⟩
  · have w1 := split_wt (x := x) nlE nlK
    have o1 := split_ok (x := x) nlE nlK h.2
    have hx := h.1
    refine ⟨Nat.le_trans (wt_len _) (by omega), fun l hl => ?_⟩
    have hl2 := wt_mem hl
    refine ⟨by omega, fun p hp => ?_⟩
    have w2 := split_wt (x := l) spE spK
    have hp2 := wt_mem (show p ∈ Txt.split l " " from hp)
    exact ⟨by omega, split_ok (x := l) spE spK (o1 l hl) p hp⟩
def beats (n : Nat) : List Str := List.replicate n "beat 0"
theorem beats_gx {n : Nat} (h : n ≤ 401) : GX (Txt.join "\n" (beats n)) := by
  have e : wt (beats n) = n * 7 := by
    induction n with
    | zero => rfl
    | succ n ih =>
      show wt ("beat 0" :: beats n) = _
      rw [wt_cons, ih (by omega)]
      have : ("beat 0" : Str).length = 6 := by decide +kernel
      omega
  refine ⟨Nat.le_trans (join_wt nlE _) (by omega), join_ok nlE (by decide) fun z hz => ?_⟩
  rw [List.eq_of_mem_replicate hz]
  decide +kernel
theorem beats_sum {n : Nat} (h : n ≤ 401) : ((beats n).map (·.length)).sum + (beats n).length * ("\n" : Str).length ≤ 16777216 := by
  have e := wt_sum (beats n)
  have e2 : wt (beats n) = n * 7 := by
    clear e
    induction n with
    | zero => rfl
    | succ n ih =>
      show wt ("beat 0" :: beats n) = _
      rw [wt_cons, ih (by omega)]
      have : ("beat 0" : Str).length = 6 := by decide +kernel
      omega
  have l1 : ("\n" : Str).length = 1 := by decide +kernel
  rw [l1]
  omega
def rowT (s : Str × Int) : Str := s.1 ++ " " ++ toString s.2
theorem rowT_gt {s : Str × Int} (h : goodS s) : s.1.length = 4 ∧ (toString s.2 : Str).length ≤ 2 ∧ PyData.strOk (rowT s) = true := by
  obtain ⟨a, n⟩ := s
  obtain ⟨h1, h2, h3⟩ := h
  have hw : ∀ x ∈ stepWords, x.length = 4 ∧ PyData.strOk x = true := by decide +kernel
  have hn : ∀ k : Nat, k ≤ 99 → (toString (k : Int) : Str).length ≤ 2 ∧ PyData.strOk (toString (k : Int)) = true := by decide +kernel
  obtain ⟨k, rfl⟩ : ∃ k : Nat, n = (k : Int) := ⟨n.toNat, by have h2' : 0 ≤ n := h2; omega⟩
  obtain ⟨w3, w4⟩ := hw a h1
  obtain ⟨n5, n6⟩ := hn k (by have h3' : (k : Int) ≤ 99 := h3; omega)
  exact ⟨w3, n5, app_ok (app_ok w4 (by decide +kernel)) n6⟩
theorem rows_wt {ss : List (Str × Int)} (h : ∀ s ∈ ss, goodS s) : wt (ss.map rowT) ≤ ss.length * 8 ∧ okT (ss.map rowT) := by
  induction ss with
  | nil => exact ⟨Nat.zero_le _, fun z hz => absurd hz (by simp)⟩
  | cons s ss ih =>
    obtain ⟨i1, i2⟩ := ih fun z hz => h z (List.mem_cons_of_mem _ hz)
    obtain ⟨a, b, c⟩ := rowT_gt (h s (by simp))
    have l2 : (" " : Str).length = 1 := by decide +kernel
    have e : (rowT s).length ≤ 7 := by
      unfold rowT
      rw [Str.length_append, Str.length_append]
      omega
    refine ⟨?_, fun z hz => ?_⟩
    · rw [List.map_cons, wt_cons, List.length_cons]
      omega
    · rw [List.map_cons] at hz
      rcases List.mem_cons.mp hz with rfl | hz
      · exact c
      · exact i2 z hz
def fRowT : D → Option D
  | .tup [.str x, .int n] => some (.str (rowT (x, n)))
  | _ => none
abbrev Fs := List (Option (Str × Int))
def stepsT (x : Str) : Fs := (linesOf x).map fun l => stepOf (wordsOf l)
def badP (fs : Fs) (k : Nat) : Bool := (fs.getD k none).isNone || decide (399 < k)
def fBad (fs : Fs) : D → Option D
  | .int k => if badP fs k.toNat = true then some (.int k) else none
  | _ => none
theorem bad_of {fs : Fs} {n : Nat} : (rangeD 0 n).filterMap (fBad fs) = ((List.range n).filter (badP fs)).map fun k : Nat => D.int k := by
  unfold rangeD
  rw [List.filterMap_map]
  induction List.range n with
  | nil => rfl
  | cons k l ih =>
    have e : (fBad fs ∘ fun i : Nat => D.int (0 + (i : Nat))) k = if badP fs k = true then some (.int (k : Int)) else none := by
      show fBad fs (.int (0 + (k : Int))) = _
      rw [Int.zero_add]; rfl
    rw [List.filterMap_cons, e, List.filter_cons]
    cases badP fs k with
    | true => simp only [if_true]; rw [List.map_cons, ← ih]
    | false => simp only [Bool.false_eq_true, if_false]; exact ih
theorem bad_first {fs : Fs} {n r : Nat} {rest : List Nat} (h : (List.range n).filter (badP fs) = r :: rest) : badP fs r = true ∧ r < n ∧ ∀ i, i < r → badP fs i = false := by
  have e := List.head?_filter (p := badP fs) (l := List.range n)
  rw [h] at e
  have e2 := (List.find?_range_eq_some.mp e.symm)
  obtain ⟨a, b, c⟩ := e2
  exact ⟨a, by simpa using b, fun i hi => by simpa using c i hi⟩
theorem bad_none {fs : Fs} {n : Nat} (h : (List.range n).filter (badP fs) = []) : ∀ i, i < n → badP fs i = false := fun i hi => by
  have := List.filter_eq_nil_iff.mp h i (List.mem_range.mpr hi)
  simpa using this
theorem all_some {fs : Fs} (h : ∀ i, i < fs.length → badP fs i = false) : ∃ ss : List (Str × Int), fs = ss.map some ∧ ss.length ≤ 400 := by
  have key : ∀ l : Fs, (∀ o ∈ l, ∃ s, o = some s) → ∃ ss : List (Str × Int), l = ss.map some := by
    intro l
    induction l with
    | nil => exact fun _ => ⟨[], rfl⟩
    | cons o l ih =>
      intro hl
      obtain ⟨s, rfl⟩ := hl o (by simp)
      obtain ⟨ss, rfl⟩ := ih fun p hp => hl p (List.mem_cons_of_mem _ hp)
      exact ⟨s :: ss, rfl⟩
  obtain ⟨ss, rfl⟩ := key fs fun o ho => by
    obtain ⟨i, hi⟩ := List.mem_iff_getElem?.mp ho
    have hb := h i (List.getElem?_eq_some_iff.mp hi).1
    unfold badP at hb
    rw [List.getD_eq_getElem?_getD, hi] at hb
    cases o with
    | none => simp at hb
    | some s => exact ⟨s, rfl⟩
  refine ⟨ss, rfl, ?_⟩
  rw [List.length_map] at h
  by_cases q : ss.length ≤ 400
  · exact q
  · have := h 400 (by omega)
    simp [badP] at this
theorem bad_line {z : Str} {r : Nat} (h1 : badP (stepsT z) r = true) (h2 : r < (stepsT z).length) (h3 : ∀ i, i < r → badP (stepsT z) i = false) : ∃ line, (linesOf z)[r]? = some line ∧ (∀ i l, i < r → (linesOf z)[i]? = some l → ∃ s, stepOf (wordsOf l) = some s) ∧ r ≤ 400 ∧ (stepOf (wordsOf line) = none ∨ r = 400) := by
  have hl : r < (linesOf z).length := by unfold stepsT at h2; rwa [List.length_map] at h2
  have at' : ∀ i l, (linesOf z)[i]? = some l → (stepsT z).getD i none = stepOf (wordsOf l) := fun i l e => by
    unfold stepsT
    rw [List.getD_eq_getElem?_getD, List.getElem?_map, e]; rfl
  have h4 : r ≤ 400 := by
    by_cases q : r ≤ 400
    · exact q
    · have := h3 400 (by omega)
      simp [badP] at this
  refine ⟨(linesOf z)[r], List.getElem?_eq_getElem hl, fun i l hi e => ?_, h4, ?_⟩
  · have hb := h3 i hi
    unfold badP at hb
    rw [at' i l e] at hb
    cases q : stepOf (wordsOf l) with
    | none => rw [q] at hb; simp at hb
    | some s => exact ⟨s, rfl⟩
  · unfold badP at h1
    rw [at' r _ (List.getElem?_eq_getElem hl)] at h1
    cases q : stepOf (wordsOf (linesOf z)[r]) with
    | none => exact .inl rfl
    | some s =>
      rw [q] at h1
      have : 399 < r := by simpa using h1
      exact .inr (by omega)
def some0 : List Str := ["", "\n", "beat 0", "beat 0\n", " beat 0", "beat 0 ", "beat", "beat 00", "beat 99", "beat 100", "beat -0"]
def some1 : List Str := ["send 09", "call  1", "Send 1", "lose 1 1", "heard 1"]
theorem some_gx : ∀ z ∈ some0 ++ some1, GX z := by
  have : ∀ z ∈ some0 ++ some1, z.length ≤ 3000 ∧ PyData.strOk z = true := by decide +kernel
  exact this
section
variable {P : Program} {w : World} {K : PySem.W.Frag} {mg : Str → Option Value} {base : Heap}
theorem ok_law {T c0 : Addr} {cl : Str → Addr} {f : Addr} {fd : FuncData} (Fn : Fun K "law" "law" s_law f fd) (hC : CodeAt K f (.ref c0)) (TB : LamX.TabB base mg c0 T) (zr : mg "range" = none) (zl : mg "len" = none) (zs : mg "str" = none) (dT : Dfn P w K mg base 1 "_law_taken" spTaken) (dA : Dfn P w K mg base 2 "_law_any" spAny)
    (dS : Dfn P w K mg base 2 "_law_spoilt" spSpoilt) (dLr : Dfn P w K mg base 1 "_law_read" spLRead) (dAl0 : Dfn P w K mg base 7 "_law_alike" (spAlike 6)) (dR : Dfn P w K mg base 2 "read" spRead) (xR : DfX P w K mg base 3 "read" (spxRead (cl "BadText"))) (wf : WordF P w K mg base "_law_word" (WdE K cl)) (eT : ErrF K cl "BadText" "row") : FnOk P w K mg base CX0 8 f fd ["_law_script"] (lift K (spTrueL T lamQ)) := by
  have dAl := dAl0.ro
  clear dAl0
  refine fun_okC Fn sc_law (fun ds M Q ⟨_, e, _⟩ => by rw [e]; rfl) fun cdv A outer sh H E hcd hr ds M Q h B => ?_
  obtain rfl := hcd.one hC
  obtain ⟨ns, rfl, hl, rfl, k⟩ := h
  have hT0 : (mupd noM T (.tbl lamQ)) T = some (.tbl lamQ) := mupd_same
  generalize mupd noM T (.tbl lamQ) = M0 at hT0
  wtm_at "b"
  wtm_at "g law"
  refine ex_lstM ?_
  wtm_at "g law"
  refine fun r fr => ?_
  have hTr : T ≠ r := mne hT0 fr
  have hR0 : Row ns r (mupd M0 r (.lst [.fzl (ns.map D.int), .int 0, .int 0])) := ⟨0, 0, mupd_same, by decide, by decide⟩
  have hT1 : (mupd M0 r (.lst [.fzl (ns.map D.int), .int 0, .int 0])) T = some (.tbl lamQ) := by rw [mupd_ne hTr]; exact hT0
  generalize mupd M0 r (.lst [.fzl (ns.map D.int), .int 0, .int 0]) = M1 at hR0 hT1
  wtm_at "g law"
  refine ex_lst ?_
  wtm_at "g law"
  refine ex_m1 PySem.F.slot_str_join PySem.F.type_str_join rfl rfl rfl ?_
  wtm_at "g law"
  refine ⟨_, rfl, ?_⟩
  wtm_at "g law"
  refine ox_repL (by decide) ?_ (by decide)
  rw [show List.replicate (Int.toNat 400) (D.str "beat 0") = (beats 400).map D.str from by unfold beats; rw [List.map_replicate]; rfl]
  refine mx_join (beats_sum (by decide)) ?_
  have g4 := beats_gx (n := 400) (by decide)
  have g5 := beats_gx (n := 401) (by decide)
  have b5 := beats_sum (n := 401) (by decide)
  have e5 : List.replicate (Int.toNat 401) (D.str "beat 0") = (beats 401).map D.str := by unfold beats; rw [List.map_replicate]; rfl
  generalize Txt.join "\n" (beats 400) = t4 at g4
  generalize beats 401 = bt5 at g5 b5 e5
  wtm_at "g law"
  refine ox_catLM IsL.fz IsL.fz (Nat.le_of_ble_eq_true rfl) fun L hL => ?_
  have hLr : L ≠ r := hR0.ne hL
  have hTL : T ≠ L := mne hT1 hL
  wtm_at "g law"
  refine ex_append rfl rfl rfl rfl rfl ?_
  wtm_at "g law"
  refine ⟨L, _, rfl, mupd_same, ?_⟩
  wtm_at "g law"
  refine ex_m1 PySem.F.slot_str_join PySem.F.type_str_join rfl rfl rfl ?_
  wtm_at "g law"
  refine ⟨_, rfl, ?_⟩
  wtm_at "g law"
  refine ox_repL (by decide) ?_ (by decide)
  rw [e5]
  refine mx_join b5 ?_
  generalize Txt.join "\n" bt5 = t5 at g5
  refine ⟨_, mupd_same, Nat.le_of_ble_eq_true rfl, ?_⟩
  rw [mupd_mupd]
  have hall : ∀ z ∈ some0 ++ some1 ++ [t4, t5], GX z := fun z hz => by
    rcases List.mem_append.mp hz with h1 | h1
    · exact some_gx z h1
    · simp only [List.mem_cons, List.not_mem_nil, or_false] at h1
      rcases h1 with rfl | rfl
      · exact g4
      · exact g5
  have hcell : (mupd M1 L (.lst ((some0 ++ some1 ++ [t4, t5]).map D.str))) L = some (.lst ((some0 ++ some1 ++ [t4, t5]).map D.str)) := mupd_same
  have hlen : (some0 ++ some1 ++ [t4, t5]).length = 18 := rfl
  have hR2 : Row ns r (mupd M1 L (.lst ((some0 ++ some1 ++ [t4, t5]).map D.str))) := hR0.upd hLr
  have hT2 : (mupd M1 L (.lst ((some0 ++ some1 ++ [t4, t5]).map D.str))) T = some (.tbl lamQ) := by rw [mupd_ne hTL]; exact hT1
  show SXs B _ _ _ [some (.fzl (ns.map D.int)), some (.ref r), some (.ref L), none, none, none, none, none, none, none, none, none, none] (mupd M1 L (.lst ((some0 ++ some1 ++ [t4, t5]).map D.str)))
  generalize some0 ++ some1 ++ [t4, t5] = sm at hall hcell hlen hR2 hT2
  refine sxs_freeze (i := 2) (p := L) (ds := sm.map D.str) rfl hcell ?_
  have hLn : M1 L = none := hL
  rw [mdel_mupd hL]
  show SXs B _ _ _ [some (.fzl (ns.map D.int)), some (.ref r), some (.lst (sm.map D.str)), none, none, none, none, none, none, none, none, none, none] M1
  clear hcell hR2 hT2 hLr hTL hL hLn
  wtm_at "b"
  wtm_at "g law"
  refine sx_for PassesOwn.never rfl (fun _ => rfl) ?_
  refine lx_range1 rfl zr rfl ?_
  wtm_at "g law"
  refine ⟨_, rfl, by decide, by decide, fun i G' M' => ∃ a3 a4 a5 a6 a7 a8 a9 a10 a11 a12, G' = [some (.fzl (ns.map D.int)), some (.ref r), some (.lst (sm.map D.str)), a3, a4, a5, a6, a7, a8, a9, a10, a11, a12] ∧ Row ns r M' ∧ M' T = some (.tbl lamQ), ⟨_, _, _, _, _, _, _, _, _, _, rfl, hR0, hT1⟩, ?_, ?_⟩
  · rintro i d G' M' hd ⟨a3, a4, a5, a6, a7, a8, a9, a10, a11, a12, rfl, hR, hT⟩
    clear hR0 hT1 M1 fr M0 hT0
    wtm_at "g law"
    refine ex_m1 PySem.F.slot_str_join PySem.F.type_str_join rfl rfl rfl ?_
    wtm_at "g law"
    refine ⟨_, rfl, ?_⟩
    wtm_at "lcp law 0"
    case f => exact fRowT
    refine lx_list ?_
    wtm_at "g law"
    refine ⟨ns, r, 10, rfl, hR, by decide, by decide, fun ss M2 hg hsl hR2 hB2 => ?_⟩
    have hT2 : M2 T = some (.tbl lamQ) := by rw [hB2 T hTr]; exact hT
    obtain ⟨rw1, rw2⟩ := rows_wt hg
    refine ⟨_, rfl, ⟨Nat.lt_of_le_of_lt (by rw [List.length_map]; omega : _ ≤ 10) (by decide), fun d M' hd hm => ?_⟩, ?_⟩
    · obtain ⟨st, hst, rfl⟩ := List.mem_map.mp hd
      obtain ⟨s1, s2, s3⟩ := rowT_gt (hg st hst)
      have gs := hg st hst
      have l3 : (" " : Str).length = 1 := by decide +kernel
      refine ⟨_, rfl, rfl, fun s1' H1 C1 cl1 fp1 => ?_⟩
      refine txs_nil (iteT fun s2' H2 C2 cl2 fp2 => ?_)
      wtm_at "gb law"
      refine ox_addS (by rw [s1, l3]; decide) ?_
      wtm_at "gb law"
      refine bx_strI (log_small gs.2.1 (by have := gs.2.2; omega)) ?_
      refine ox_addS (by rw [Str.length_append, s1, l3]; exact Nat.le_trans (Nat.add_le_add_left s2 _) (by decide)) ?_
      exact ⟨rfl, rfl⟩
    have e : (ss.map encS).filterMap fRowT = (ss.map rowT).map D.str := by
      rw [filterMap_enc (enc := encS) (f := fRowT) (g := fun s => D.str (rowT s)) (fun _ _ => rfl), List.map_map]
      rfl
    rw [e]
    have hsw := wt_sum (ss.map rowT)
    have l1 : ("\n" : Str).length = 1 := by decide +kernel
    refine mx_join (by rw [l1]; omega) ?_
    have g0 : GT 80 (Txt.join "\n" (ss.map rowT)) := ⟨Nat.le_trans (join_wt nlE _) (by omega), join_ok nlE (by decide) rw2⟩
    generalize Txt.join "\n" (ss.map rowT) = x0 at g0
    clear hsw rw1 rw2 e hg hsl hR hT hB2
    wtm_at "g law"
    refine sx_for PassesOwn.never rfl (fun _ => rfl) ?_
    refine lx_range1 rfl zr rfl ?_
    wtm_at "g law"
    refine ⟨ns, r, _, rfl, hR2, by decide, fun c M3 cz0 cz1 hR3 hB3 => ?_⟩
    have hT3 : M3 T = some (.tbl lamQ) := by rw [hB3 T hTr]; exact hT2
    refine ⟨_, rfl, by omega, by omega, fun j G' M' => ∃ (x : Str) (n : Nat) (a5 : Option D), G' = [some (.fzl (ns.map D.int)), some (.ref r), some (.lst (sm.map D.str)), some d, some (.str x), a5, a6, a7, a8, a9, a10, a11, a12] ∧ GT n x ∧ n + 20 ≤ 100 * 2 ^ j ∧ Row ns r M' ∧ M' T = some (.tbl lamQ), ⟨x0, 80, _, rfl, g0, by decide, hR3, hT3⟩, ?_, ?_⟩
    · rintro j dj G' M' hdj ⟨x, n, a5, rfl, hx, hn, hR4, hT4⟩
      obtain ⟨hj, rfl⟩ := rangeD_at hdj
      have hp : 2 ^ j ≤ 8 := Nat.le_trans (Nat.pow_le_pow_right (by decide) (by omega : j ≤ 3)) (by decide)
      wtm_at "g law"
      refine ⟨ns, r, x, n, rfl, hR4, hx, by omega, fun y M5 hy hR5 hB5 => ?_⟩
      wtm_at "g law"
      exact ⟨y, 2 * n + 20, _, rfl, hy, by rw [Nat.pow_succ]; omega, hR5, by rw [hB5 T hTr]; exact hT4⟩
    · rintro G' M' ⟨x, n, a5, rfl, hx, hn, hR4, hT4⟩
      rw [rangeD_len] at hn
      have hp : 2 ^ c.toNat ≤ 8 := Nat.le_trans (Nat.pow_le_pow_right (by decide) (by omega : c.toNat ≤ 3)) (by decide)
      have gx : GX x := ⟨by have := hx.1; omega, hx.2⟩
      clear hx hn hp hR3 hB3 hT3 hR2 hT2 g0
      wtm_at "b"
      refine sx_for PassesOwn.never rfl (fun _ => rfl) ?_
      refine lx_list ?_
      refine ex_lst ?_
      wtm_at "g law"
      rw [List.length_map, hlen]
      refine ⟨ns, r, _, rfl, hR4, by decide, fun q M5 q0 q1 hR5 hB5 => ?_⟩
      have hT5 : M5 T = some (.tbl lamQ) := by rw [hB5 T hTr]; exact hT4
      refine ix_ls q0 (by rw [hlen]; exact q1) fun y hy => ?_
      have gy := hall y hy
      wtm_at "g law"
      refine ⟨_, rfl, fun j G' M' => ∃ (a6 a7 a8 a9 a10 a11 a12 : Option D), G' = [some (.fzl (ns.map D.int)), some (.ref r), some (.lst (sm.map D.str)), some d, some (.str x), a5, a6, a7, a8, a9, a10, a11, a12] ∧ Row ns r M' ∧ M' T = some (.tbl lamQ), ⟨_, _, _, _, _, _, _, rfl, hR5, hT5⟩, ?_, ?_⟩
      · rintro j dj G' M' hdj ⟨a6, a7, a8, a9, a10, a11, a12, rfl, hR6, hT6⟩
        obtain ⟨z, rfl, gz⟩ : ∃ z : Str, dj = .str z ∧ GX z := by
          have := List.mem_of_getElem? hdj
          simp only [List.mem_cons, List.not_mem_nil, or_false] at this
          rcases this with rfl | rfl
          · exact ⟨x, rfl, gx⟩
          · exact ⟨y, rfl, gy⟩
        clear hdj hR5 hT5 hB5 hR4 hT4 hall
        obtain ⟨zl1, zl2⟩ := gx_lines gz
        have n1 : (("\n" : Str).length == 0) = false := by decide +kernel
        have big : (100000 : Nat) + 2 ≤ sizeLine := by decide
        have hzL := gz.1
        have efs : (linesOf z).map (fun l => encO (stepOf (wordsOf l))) = (stepsT z).map encO := by unfold stepsT; rw [List.map_map]; rfl
        have hfl : (stepsT z).length = (linesOf z).length := by unfold stepsT; rw [List.length_map]
        wtm_at "v law"
        wtm_at "b"
        wtm_at "v law"
        refine EX.imp (Q := fun d M1 => d = .lst ((stepsT z).map encO) ∧ Ext M' M1) ?_ ?_
        · wtm_at "h law"
          refine ite_ndec (fun h1 => ?_) (fun h1 => ?_)
          · wtm_at "lc law 1"
            refine lx_list ?_
            refine ex_m1 PySem.F.slot_str_split PySem.F.type_str_split rfl rfl rfl ?_
            wtm_at "h law"
            refine ⟨_, rfl, ?_⟩
            wtm_at "h law"
            refine mx_split n1 (by omega) ?_
            rw [show Txt.split z "\n" = linesOf z from by rw [linesOf, if_neg h1]]
            refine ⟨_, rfl, fun L hL => ⟨fun i acc M1 => acc = ((linesOf z).take i).map (fun l => encO (stepOf (wordsOf l))) ∧ ∀ a o, a ≠ L → M' a = some o → M1 a = some o, ?_, ?_, ?_⟩⟩
            · exact ⟨by simp, fun a o ha e => by rw [mupd_ne ha]; exact e⟩
            · rintro i d acc M1 hd ⟨rfl, hK⟩ hM
              rw [List.getElem?_map] at hd
              obtain ⟨l, hl, rfl⟩ := Option.map_eq_some_iff.mp hd
              obtain ⟨t1, t2⟩ := zl2 l (List.mem_of_getElem? hl)
              refine fun s1 H1 C1 cl1 fp1 => txs_nil (iteT fun s2 H2 C2 cl2 fp2 => ?_)
              wtm_at "gb law"
              refine ⟨l, rfl, t1, t2, fun M2 hE2 => ?_⟩
              refine ⟨hE2 _ _ hM, ?_, ?_, fun a o ha e => ?_⟩
              · rw [List.length_map, List.length_take]
                exact Nat.lt_of_le_of_lt (by omega : _ ≤ 3001) (by decide)
              · rw [List.take_add_one, hl, List.map_append]; rfl
              · rw [mupd_ne ha]; exact hE2 _ _ (hK a o ha e)
            · rintro acc M1 ⟨rfl, hK⟩ hM
              refine ⟨?_, fun a o e => ?_⟩
              · rw [List.length_map, List.take_length, efs]
              · have ha : a ≠ L := mne e hL
                unfold mdel
                rw [if_neg ha]
                exact hK a o ha e
          · refine ex_lst (ax_nil ⟨Nat.zero_le _, ?_, Ext.refl _⟩)
            unfold stepsT linesOf
            rw [if_pos h1]; rfl
        rintro d1 M1 ⟨rfl, hE1⟩
        have hR7 := hR6.ext hE1
        have hT7 := hE1 _ _ hT6
        clear hR6 hT6 hE1
        wtm_at "b"
        wtm_at "slcp law 2"
        case f => exact fBad (stepsT z)
        refine lx_range1 rfl zr rfl ?_
        wtm_at "h law"
        rw [List.length_map]
        refine ⟨_, rfl, by omega, by omega, ⟨?_, fun d M3 hd3 hm => ?_⟩, ?_⟩
        · rw [rangeD_len]
          exact Nat.lt_of_le_of_lt (by omega : _ ≤ 3001) (by decide)
        · obtain ⟨m, hm0⟩ := List.mem_iff_getElem?.mp hd3
          obtain ⟨hmlt, rfl⟩ := rangeD_at hm0
          refine fun s1 H1 C1 cl1 fp1 => txs_one ?_
          have hml : m < (stepsT z).length := by omega
          have g1 : ((stepsT z).map encO)[m]? = some (encO ((stepsT z).getD m none)) := by
            rw [List.getElem?_map, List.getElem?_eq_getElem hml, List.getD_eq_getElem?_getD, List.getElem?_eq_getElem hml]; rfl
          have eb : fBad (stepsT z) (.int (0 + (m : Int))) = if badP (stepsT z) m = true then some (.int (0 + (m : Int))) else none := by
            show (if badP (stepsT z) (0 + (m : Int)).toNat = true then _ else _) = _
            rw [show (0 + (m : Int)).toNat = m from by omega]
          rw [eb]
          unfold badP
          wtm_at "gb law"
          refine ix_l (atI_of (Int.zero_add _) g1) ?_
          cases hs : (stepsT z).getD m none with
          | none =>
            wtm_at "gb law"
            refine fun s2 H2 C2 cl2 fp2 => ?_
            wtm_at "gb law"
            exact ⟨rfl, rfl⟩
          | some st =>
            wtm_at "gb law"
            refine ite_dec (fun h9 => ?_) (fun h9 => ?_)
            · refine fun s2 H2 C2 cl2 fp2 => ?_
              wtm_at "gb law"
              refine ⟨rfl, ?_⟩
              show (if (false || decide (399 < m)) = true then some _ else none) = _
              rw [decide_eq_true (by omega : 399 < m)]; rfl
            · refine ⟨rfl, ?_⟩
              show (if (false || decide (399 < m)) = true then some _ else none) = _
              rw [decide_eq_false (by omega : ¬ 399 < m)]; rfl
        rw [Int.toNat_natCast, bad_of]
        cases hbd : (List.range (stepsT z).length).filter (badP (stepsT z)) with
        | nil =>
          obtain ⟨ss, hss, hs4⟩ := all_some (bad_none hbd)
          have eSS : (stepsT z).map encO = ss.map encS := by rw [hss, List.map_map]; rfl
          rw [eSS]
          wtm_at "b"
          refine sx_ifF ?_ ?_
          · wtm_at "h law"
            refine ox_ne0 (n := 0) hr.units (fun d hd => absurd hd (by simp)) (by decide) ?_
            exact ⟨rfl, rfl⟩
          wtm_at "b"
          refine sx_ifQ (fun Me => Row ns r Me ∧ Me T = some (.tbl lamQ)) ?_ (fun Me ⟨hRe, hTe⟩ => ?_)
          · wtm_at "h law"
            refine ⟨z, ss, rfl, hss, hs4, by omega, zl2, fun l fl => ?_⟩
            wtm_at "h law"
            refine ro1 (.bl true) (.cons (.cell mupd_same (DeepAll.self _)) (DeepAll.self _)) ⟨.lst (ss.map encS), rfl, ?_, ?_, rfl⟩ rfl ?_
            · refine okA_lst (by rw [List.length_map]; omega) fun d hd => ?_
              obtain ⟨s, _, rfl⟩ := List.mem_map.mp hd
              rfl
            · refine dep_lst.mpr ⟨by decide, fun d hd => ?_⟩
              obtain ⟨s, _, rfl⟩ := List.mem_map.mp hd
              exact Nat.le_of_ble_eq_true rfl
            · exact ⟨rfl, hR7.upd (hR7.ne fl), by rw [mupd_ne (mne hT7 fl)]; exact hT7⟩
          refine sxs_nil ?_
          exact ⟨_, _, _, _, _, _, _, rfl, hRe, hTe⟩
        | cons q rest =>
          obtain ⟨b1, b2, b3⟩ := bad_first hbd
          obtain ⟨line, l1, l2, l3, l4⟩ := bad_line b1 b2 b3
          wtm_at "b"
          refine sx_ifT ?_ ?_
          · wtm_at "h law"
            refine ox_ne0 (n := 0) hr.units (fun d hd => ?_) (by decide) ?_
            · obtain ⟨_, _, rfl⟩ := List.mem_map.mp hd
              exact ⟨rfl, Nat.le_refl 0⟩
            · exact ⟨rfl, rfl⟩
          wtm_at "b"
          refine sx_ifF ?_ ?_
          · wtm_at "h law"
            refine ex_lam (k := 3) (P := T) (c := c0) (Wd := WdE K cl) (fun y M1' => y = ⟨cl "BadText", some ("row", (q : Int))⟩ ∧ Ext M1 M1') wf rfl rfl hT7 TB rfl (hr.mono (by decide)) (LamX.lamS_by (sc := defScope s_law) (by decide +kernel)) rfl (fun _ _ _ _ _ => rfl) ?_ ?_
            · intro A2 outer2 s2 H2 E2 f2 c2 B2 hr2 tk
              refine ex_callX xR tk hr2 rfl rfl rfl rfl ?_
              wtm_at "gy law"
              exact ⟨z, q, line, rfl, l1, l2, l3, l4, by omega, zl2, fun dd l M2 hl hdd hM => ⟨rfl, fun a o e => Ext.new hdd _ _ (hM a o e)⟩⟩
            · rintro y M2 ⟨rfl, hE⟩
              refine ⟨hE, _, .inr (.inl ⟨_, rfl, eT, rfl⟩), ?_⟩
              wtm_at "h law"
              have hok : (D.tup [.str "text", .int (q : Int)]).okEq = true := by
                refine okEq_tup (n := 0) (fun d hd => ?_) (by decide)
                simp only [List.mem_cons, List.not_mem_nil, or_false] at hd
                rcases hd with rfl | rfl
                · exact ⟨by decide +kernel, Nat.le_refl 0⟩
                · exact ⟨rfl, Nat.le_refl 0⟩
              refine ix_l (d := .int (q : Int)) (atI_of (j := 0) rfl rfl) ?_
              wtm_at "h law"
              refine ox_neD hr.units hok hok ?_
              have e0 : eqD (.tup [.str "text", .int (q : Int)]) (.tup [.str "text", .int (q : Int)]) = true := by
                rw [eqD_tup, eqDs_cons, eqDs_cons, eqDs_nil, eqD_str', eqD_int']
                simp
              rw [e0]
              exact ⟨rfl, rfl⟩
          refine sxs_nil ?_
          exact ⟨_, _, _, _, _, _, _, rfl, hR7, hT7⟩
      · rintro G' M' ⟨a6, a7, a8, a9, a10, a11, a12, rfl, hR6, hT6⟩
        exact ⟨_, _, _, _, _, _, _, _, _, _, rfl, hR6, hT6⟩
  · rintro G' M' ⟨a3, a4, a5, a6, a7, a8, a9, a10, a11, a12, rfl, hR, hT⟩
    wtm_at "b"
    wtm_at "g law"
    exact k _
end

theorem hfacts {P : Program} {w : World} {K : PySem.W.Frag} {h : Heap} {mg : Str → Option Value} {fl : Addr} (X : K.In h) (G : h.Ns mainGlobals mg) (hfa0 : mg ("law" : Str) = some (.ref fl)) (c0 : He.SaysX hfa hfn [] [("law", none)] hexB w h K) :
    ∃ fd : FuncData, (∀ (s : Shared) (v : Value), BindsTo s fd ⟨[v], []⟩ [("_law_script", v)]) ∧ ∀ base : Heap, K.In base → base.Ns mainGlobals mg → LamX.TabB base mg (He.cT K ("law", none)).1 (He.cT K ("law", none)).2 → FnOk P w K mg base CX0 8 fl fd ["_law_script"] (lift K (spTrueL (He.cT K ("law", none)).2 lamQ)) := by
  have c : He.SaysD hfa hfn K := c0.t.d
  have cx : hexB K = true := c0.more
  simp only [hexB, Bool.and_eq_true] at cx
  obtain ⟨⟨⟨⟨⟨⟨cx0, cx1⟩, cx2⟩, cx3⟩, cx4⟩, cx5⟩, _⟩ := cx
  have z_ValueError : mg "ValueError" = none := He.free_ok X G (c.fact 23 rfl)
  have z_bool : mg "bool" = none := He.free_ok X G (c.fact 24 rfl)
  have z_enumerate : mg "enumerate" = none := He.free_ok X G (c.fact 25 rfl)
  have z_int : mg "int" = none := He.free_ok X G (c.fact 26 rfl)
  have z_isinstance : mg "isinstance" = none := He.free_ok X G (c.fact 27 rfl)
  have z_len : mg "len" = none := He.free_ok X G (c.fact 28 rfl)
  have z_list : mg "list" = none := He.free_ok X G (c.fact 29 rfl)
  have z_range : mg "range" = none := He.free_ok X G (c.fact 30 rfl)
  have z_str : mg "str" = none := He.free_ok X G (c.fact 31 rfl)
  have z_tuple : mg "tuple" = none := He.free_ok X G (c.fact 32 rfl)
  have k_FIGURES := cst_str X G (x := "FIGURES") (z := "0123456789") (c.fact 33 rfl)
  have k_MOST_STEPS := cst_int X G (x := "MOST_STEPS") (i := 400) (c.fact 34 rfl)
  have k_STEPS := cst_tup X G (c.fact 35 (f := .glo "STEPS") rfl) (zs := ["send", "call", "lose", "beat"]) cx0
  have g_LinkError := He.glo_ok X G (c.fact 9 (f := .glo "LinkError") rfl)
  have g_BadBook := He.glo_ok X G (c.fact 10 (f := .glo "BadBook") rfl)
  have g_BadLetters := He.glo_ok X G (c.fact 11 (f := .glo "BadLetters") rfl)
  have g_BadStep := He.glo_ok X G (c.fact 12 (f := .glo "BadStep") rfl)
  have g_BadText := He.glo_ok X G (c.fact 13 (f := .glo "BadText") rfl)
  have g_BadDelay := He.glo_ok X G (c.fact 14 (f := .glo "BadDelay") rfl)
  have g_BadWindows := He.glo_ok X G (c.fact 15 (f := .glo "BadWindows") rfl)
  have g_NoCommand := He.glo_ok X G (c.fact 16 (f := .glo "NoCommand") rfl)
  have g_NoWindow := He.glo_ok X G (c.fact 17 (f := .glo "NoWindow") rfl)
  have g_NoLetter := He.glo_ok X G (c.fact 18 (f := .glo "NoLetter") rfl)
  have g_BadReport := He.glo_ok X G (c.fact 19 (f := .glo "BadReport") rfl)
  have g_TooMany := He.glo_ok X G (c.fact 20 (f := .glo "TooMany") rfl)
  have g_BadCount := He.glo_ok X G (c.fact 21 (f := .glo "BadCount") rfl)
  have g_Over := He.glo_ok X G (c.fact 22 (f := .glo "Over") rfl)
  have up0 : UpC K mg "LinkError" (He.ga K "LinkError") := upB_ok g_LinkError cx1
  obtain ⟨fd_word, F0_word⟩ := c.def_ 8 (d := defAt ("_law_word", none) "_law_word" "_law_word" s_L_word) rfl
  have F_word : Fun K "_law_word" "_law_word" s_L_word _ fd_word := fun_of F0_word
  have m_word := He.glo_ok X G (c.fact 8 (f := .glo "_law_word") rfl)
  have b_word := F_word.binds (ps := ["_law_work"]) fun _ _ _ _ _ _ us hl => match us, hl with | [_], _ => rfl
  have wf0 : ∀ base : Heap, WordF P w K mg base "_law_word" (WdE K (He.ga K)) := fun base => wf_L_word F_word m_word b_word z_isinstance z_ValueError g_LinkError (cst_ref g_BadBook) (cst_ref g_BadLetters) (cst_ref g_BadStep) (cst_ref g_BadText) (cst_ref g_BadDelay) (cst_ref g_BadWindows) (cst_ref g_NoCommand) (cst_ref g_NoWindow) (cst_ref g_NoLetter) (cst_ref g_BadReport) (cst_ref g_TooMany) (cst_ref g_BadCount) (cst_ref g_Over)
  have e_BadText : ErrK K (He.ga K) "BadText" := errB_ok cx2
  have n_BadText := iniB_ok cx5
  have f_BadText : ErrF K (He.ga K) "BadText" "row" := ⟨e_BadText, xfB_ok cx4, n_BadText.2.2⟩
  obtain ⟨fd_BadText, F0_BadText⟩ := c.def_ 9 (d := defAt ("BadText", some "__init__") "__init__" "BadText.__init__" s_BadText_init) rfl
  have F_BadText : Fun K "__init__" "BadText.__init__" s_BadText_init _ fd_BadText := fun_of F0_BadText
  have b_BadText := F_BadText.binds (ps := ["self", "row"]) fun _ _ _ _ _ _ us hl => match us, hl with | [_, _], _ => rfl
  have i_BadText : ∀ base : Heap, XcI P w K mg base 1 "BadText" (He.ga K "BadText") "row" := fun base => ⟨oexB_ok cx3, g_BadText, _, _, _, n_BadText.1, n_BadText.2.1, oki_BadText F_BadText (oexB_ok cx3) n_BadText.2.2 up0, b_BadText⟩
  obtain ⟨fd_step_of, F0_step_of⟩ := c.def_ 0 (d := defAt ("step_of", none) "step_of" "step_of" s_step_of) rfl
  have F_step_of : Fun K "step_of" "step_of" s_step_of _ fd_step_of := fun_of F0_step_of
  have m_step_of := He.glo_ok X G (c.fact 0 (f := .glo "step_of") rfl)
  have b_step_of := F_step_of.binds (ps := ["words"]) fun _ _ _ _ _ _ us hl => match us, hl with | [_], _ => rfl
  have d_step_of : ∀ base : Heap, Dfn P w K mg base 1 "step_of" spStepOf := fun base => dfn_mk (by apply ok_step_of F_step_of <;> first | assumption | apply_assumption) m_step_of F_step_of.kp b_step_of
  obtain ⟨fd_read, F0_read⟩ := c.def_ 1 (d := defAt ("read", none) "read" "read" s_read) rfl
  have F_read : Fun K "read" "read" s_read _ fd_read := fun_of F0_read
  have m_read := He.glo_ok X G (c.fact 1 (f := .glo "read") rfl)
  have b_read := F_read.binds (ps := ["text"]) fun _ _ _ _ _ _ us hl => match us, hl with | [_], _ => rfl
  have d_read : ∀ base : Heap, Dfn P w K mg base 2 "read" spRead := fun base => dfn_mk (by apply ok_read F_read <;> first | assumption | apply_assumption) m_read F_read.kp b_read
  have x_read : ∀ base : Heap, DfX P w K mg base 3 "read" (spxRead (He.ga K "BadText")) := fun base => ⟨_, _, _, (by apply okx_read F_read <;> first | assumption | apply_assumption), m_read, F_read.kp, b_read⟩
  obtain ⟨fd_L_read, F0_L_read⟩ := c.def_ 2 (d := defAt ("_law_read", none) "_law_read" "_law_read" s_L_read) rfl
  have F_L_read : Fun K "_law_read" "_law_read" s_L_read _ fd_L_read := fun_of F0_L_read
  have m_L_read := He.glo_ok X G (c.fact 2 (f := .glo "_law_read") rfl)
  have b_L_read := F_L_read.binds (ps := ["_law_line"]) fun _ _ _ _ _ _ us hl => match us, hl with | [_], _ => rfl
  have d_L_read : ∀ base : Heap, Dfn P w K mg base 1 "_law_read" spLRead := fun base => dfn_mk (by apply ok_L_read F_L_read <;> first | assumption | apply_assumption) m_L_read F_L_read.kp b_L_read
  obtain ⟨fd_taken, F0_taken⟩ := c.def_ 3 (d := defAt ("_law_taken", none) "_law_taken" "_law_taken" s_L_taken) rfl
  have F_taken : Fun K "_law_taken" "_law_taken" s_L_taken _ fd_taken := fun_of F0_taken
  have m_taken := He.glo_ok X G (c.fact 3 (f := .glo "_law_taken") rfl)
  have b_taken := F_taken.binds (ps := ["_law_row", "_law_many"]) fun _ _ _ _ _ _ us hl => match us, hl with | [_, _], _ => rfl
  have d_taken : ∀ base : Heap, Dfn P w K mg base 1 "_law_taken" spTaken := fun base => dfn_mk (by apply ok_taken F_taken <;> first | assumption | apply_assumption) m_taken F_taken.kp b_taken
  obtain ⟨fd_L_any, F0_L_any⟩ := c.def_ 4 (d := defAt ("_law_any", none) "_law_any" "_law_any" s_L_any) rfl
  have F_L_any : Fun K "_law_any" "_law_any" s_L_any _ fd_L_any := fun_of F0_L_any
  have m_L_any := He.glo_ok X G (c.fact 4 (f := .glo "_law_any") rfl)
  have b_L_any := F_L_any.binds (ps := ["_law_row", "_law_most"]) fun _ _ _ _ _ _ us hl => match us, hl with | [_, _], _ => rfl
  have d_L_any : ∀ base : Heap, Dfn P w K mg base 2 "_law_any" spAny := fun base => dfn_mk (by apply ok_L_any F_L_any <;> first | assumption | apply_assumption) m_L_any F_L_any.kp b_L_any
  obtain ⟨fd_L_spoilt, F0_L_spoilt⟩ := c.def_ 5 (d := defAt ("_law_spoilt", none) "_law_spoilt" "_law_spoilt" s_L_spoilt) rfl
  have F_L_spoilt : Fun K "_law_spoilt" "_law_spoilt" s_L_spoilt _ fd_L_spoilt := fun_of F0_L_spoilt
  have m_L_spoilt := He.glo_ok X G (c.fact 5 (f := .glo "_law_spoilt") rfl)
  have b_L_spoilt := F_L_spoilt.binds (ps := ["_law_row", "_law_text"]) fun _ _ _ _ _ _ us hl => match us, hl with | [_, _], _ => rfl
  have d_L_spoilt : ∀ base : Heap, Dfn P w K mg base 2 "_law_spoilt" spSpoilt := fun base => dfn_mk (by apply ok_L_spoilt F_L_spoilt <;> first | assumption | apply_assumption) m_L_spoilt F_L_spoilt.kp b_L_spoilt
  obtain ⟨fd_L_alike, F0_L_alike⟩ := c.def_ 6 (d := defAt ("_law_alike", none) "_law_alike" "_law_alike" s_L_alike) rfl
  have F_L_alike : Fun K "_law_alike" "_law_alike" s_L_alike _ fd_L_alike := fun_of F0_L_alike
  have m_L_alike := He.glo_ok X G (c.fact 6 (f := .glo "_law_alike") rfl)
  have b_L_alike := F_L_alike.binds (ps := ["_law_found", "_law_due"]) fun _ _ _ _ _ _ us hl => match us, hl with | [_, _], _ => rfl
  have d_L_alike : ∀ base : Heap, Dfn P w K mg base 7 "_law_alike" (spAlike 6) := fun base => dfn_mk (by apply ok_L_alike F_L_alike <;> first | assumption | apply_assumption) m_L_alike F_L_alike.kp b_L_alike
  obtain ⟨fd_law, F0_law⟩ := c.def_ 7 (d := defAt ("law", none) "law" "law" s_law) rfl
  have F_law : Fun K "law" "law" s_law _ fd_law := fun_of F0_law
  have m_law := He.glo_ok X G (c.fact 7 (f := .glo "law") rfl)
  have e := hfa0.symm.trans m_law
  cases e
  have cA := codeAt_of (p := ("law", none)) F_law
  exact ⟨fd_law, fun s v => FunD.bindsA (ps := ["_law_script"]) F0_law (fun _ _ _ _ _ _ us hl => match us, hl with | [_], _ => rfl) s [v] rfl, fun base _ _ tB => by apply ok_law F_law <;> first | assumption | apply_assumption⟩
end Lw
open PySem PySem.W PySem.Calls PyProof.Rows
set_option maxHeartbeats 0 in
theorem PySem.Challenge.cw_faruplink_k17_texts_refused_holds : PySem.Challenge.rw_faruplink_k17_texts_refused.Holds := by
  w_on; o_law
  refine HandSHeadRun.head_any (r := OpenLaw.row PySem.Challenge.rw_faruplink_k17_texts_refused) (q := view (OpenLaw.row PySem.Challenge.rw_faruplink_k17_texts_refused).prog [28]) (H := Lw.hk) (ob := Lw.hob) (M := 4000) (loose := Lw.hloose) (d := HandSHeadRun.topDef (OpenLaw.row PySem.Challenge.rw_faruplink_k17_texts_refused).prog 28) (kwd := []) Lw.hob_eq
    (by kernel_rfl) (fun s => by kernel_rfl) Lw.hrun (by kernel_rfl) (by kernel_rfl) (by kernel_rfl) (by rfl) (by first | assumption | decide +kernel) (by decide +kernel) ⟨rfl, rfl, rfl, rfl, rfl, by decide +kernel⟩ ?hw ?hc
  case hw => w_witness2
  case hc =>
    refine LamX.walk_ofTsE (l := PySem.Challenge.rw_faruplink_k17_texts_refused) (n := 63) (k := 8) (x := "_law_script") (CX := fun _ => L2.CX0) rfl (by decide) (by kernel_rfl) ⟨rfl, by decide, by decide⟩ ?F (fun _ _ _ _ _ z => z)
    intro w mg fa h Y G hmg0
    obtain ⟨K, KX, c⟩ := Y
    have hmg : mg ("law" : PySem.Str) = some (.ref fa) := by
      have e : (HandSHeadRun.topDef (OpenLaw.row PySem.Challenge.rw_faruplink_k17_texts_refused).prog 28).name = ("law" : PySem.Str) := by kernel_rfl
      rw [← e]
      exact hmg0
    obtain ⟨fd, hb, hF⟩ := Lw.hfacts (P := (PySem.Challenge.rw_faruplink_k17_texts_refused).prog) (w := w) KX G hmg c
    refine ⟨K, KX, fd, [He.cT K ("law", none)], FL.lift K (FL.spTrueL (He.cT K ("law", none)).2 Lw.lamQ), fun p hp => ?_, fun p hp => ?_, fun p hp => ?_, hb, fun H a ns hl _ hH hS => FL.law_spL hl (hH _ (List.mem_singleton.mpr rfl)) hS, fun base h1 h2 h3 => hF base h1 h2 (h3 _ (List.mem_singleton.mpr rfl))⟩
    · rw [List.mem_singleton.mp hp]; exact c.empty _ (List.mem_singleton.mpr rfl)
    · rw [List.mem_singleton.mp hp]; exact c.out _ (List.mem_singleton.mpr rfl)
    · rw [List.mem_singleton.mp hp]; exact PySem.W.codeHd_of_K KX (c.hd _ (List.mem_singleton.mpr rfl))
